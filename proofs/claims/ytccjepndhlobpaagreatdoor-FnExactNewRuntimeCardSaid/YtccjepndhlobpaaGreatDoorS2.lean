/-
  Walks: the same data twice are equal.
-/
import Derived.Test.YtccjepndhlobpaaGreatDoorRows
import Derived.Test.YtccjepndhlobpaaGreatDoorShelf
import Derived.WalkSpells
import Derived.WalkLawsBesides
import Derived.Test.YtccjepndhlobpaaGreatDoorB0
import Derived.BigQuiet
import Derived.Deep.RegionWith
import Derived.Deep.DrawnRows
import Derived.Deep.RegionHeld3
import Derived.Deep.DeepMust
namespace Go.Proofs.YtccjepndhlobpaaGreatDoor
open Go.RowKit
set_option linter.unusedVariables false
set_option linter.unusedSimpArgs false

set_option maxRecDepth 100000 in
set_option maxHeartbeats 1600000 in
theorem c_laws_eqIntS (l1 u1 l2 u2:Nat) (v1 v2:Value) (xs:List Int) (w:World) (h1:SlV 1 IntP l1 u1 w v1 xs) (h2:SlV 1 IntP l2 u2 w v2 xs) :
 Calls Tryz.prog 18 #[v1,v2] w fun e w'=>e=.returned (.bool true)∧Ext w w':=by
 obtain ⟨a,k,rfl,g1,g2,g3,g4⟩:=h1
 obtain ⟨a',k',rfl,m1,m2,m3,m4⟩:=h2
 unfold maxLen at g2
 go_enter Tryz.func18,Tryz.ntmps18
 go_wp2
 go_loopw [5] (fun c wr=>∃i:Nat,c=.int .i64 i∧i≤xs.length∧Ext w wr) (fun c _=>xs.length - (intOf c).toNat)
 case atStart=>exact ⟨0,rfl,Nat.zero_le _,xw⟩
 case round=>
  obtain ⟨i,rfl,hi,hx⟩:=hrel
  by_cases hlt:i<xs.length
  ·rcases g4 with g4|⟨b,o,rfl,gb1,gb2,g4⟩
   ·subst g4;simp at hlt
   ·rcases m4 with m4|⟨b',o',rfl,mb1,mb2,m4⟩
    ·subst m4;simp at hlt
    obtain ⟨cs,hcl,hP,hc⟩:=g4 i hlt
    obtain ⟨ds,hdl,hD,hd⟩:=m4 i hlt
    have HP:=IntP.keeps _ _ _ _ _ _ (Same.ext hx) hP
    have HD:=IntP.keeps _ _ _ _ _ _ (Same.ext hx) hD
    obtain ⟨rfl,e1⟩:=hP
    obtain ⟨rfl,e1⟩:=hD
    have q0:=hx.keep (hc 0 _ rfl)
    rw [Nat.mul_one,Nat.add_zero] at q0
    have r0:=hx.keep (hd 0 _ rfl)
    rw [Nat.mul_one,Nat.add_zero] at r0
    clear g4 m4 hc hd
    go_wp2_with fail
    refine wp_region_held_drew (S:=(fun w'=>Ext wr w')) (by kernel_rfl) ?_ (fun hHeld=>?_)
    ·exact (Ext.refl wr).drew
    refine tkP 0 ?_ ?_ ?_;rotate_left;focus (intro w;go_simp;try with_reducible rfl)
    try simp only [Act.put,aput]
    refine tkP 1 ?_ ?_ ?_;rotate_left;focus (intro w;go_simp;try with_reducible rfl)
    try simp only [Act.put,aput]
    refine tkP 2 ?_ ?_ ?_;rotate_left;focus (intro w;go_simp;try with_reducible rfl)
    try simp only [Act.put,aput]
    refine tkY 3 ?_ ?_ ?_;rotate_left;focus (intro w hSw;(try dsimp only at hSw);have s0:=Ext.keep hSw q0;have t0:=Ext.keep hSw r0;go_simp;try with_reducible rfl)
    try simp only [Act.put,aput]
    refine tkP 4 ?_ ?_ ?_;rotate_left;focus (intro w;go_simp;try with_reducible rfl)
    try simp only [Act.put,aput]
    refine tkP 5 ?_ ?_ ?_;rotate_left;focus (intro w;go_simp;try with_reducible rfl)
    try simp only [Act.put,aput]
    refine tkP 6 ?_ ?_ ?_;rotate_left;focus (intro w;go_simp;try with_reducible rfl)
    try simp only [Act.put,aput]
    refine tkY 7 ?_ ?_ ?_;rotate_left;focus (intro w hSw;(try dsimp only at hSw);have s0:=Ext.keep hSw q0;have t0:=Ext.keep hSw r0;go_simp;try with_reducible rfl)
    try simp only [Act.put,aput]
    refine tkP 8 ?_ ?_ ?_;rotate_left;focus (intro w;go_simp;try with_reducible rfl)
    try simp only [Act.put,aput]
    refine wpAnyH_done (by kernel_rfl) ?_ _
    all_goals go_wp2
    all_goals go_roundw
    case rel=>exact ⟨i+1,rfl,by omega,xw⟩
    all_goals (simp only [intOf];omega)
  ·go_wp2
   go_ret
   exact ⟨rfl,xw⟩
set_option maxRecDepth 100000 in
set_option maxHeartbeats 1600000 in
theorem c_laws_eqStringS (l1 u1 l2 u2:Nat) (v1 v2:Value) (xs:List ByteArray) (w:World) (h1:SlV 1 StrP l1 u1 w v1 xs) (h2:SlV 1 StrP l2 u2 w v2 xs) :
 Calls Tryz.prog 35 #[v1,v2] w fun e w'=>e=.returned (.bool true)∧Ext w w':=by
 obtain ⟨a,k,rfl,g1,g2,g3,g4⟩:=h1
 obtain ⟨a',k',rfl,m1,m2,m3,m4⟩:=h2
 unfold maxLen at g2
 go_enter Tryz.func35,Tryz.ntmps35
 go_wp2
 go_loopw [5] (fun c wr=>∃i:Nat,c=.int .i64 i∧i≤xs.length∧Ext w wr) (fun c _=>xs.length - (intOf c).toNat)
 case atStart=>exact ⟨0,rfl,Nat.zero_le _,xw⟩
 case round=>
  obtain ⟨i,rfl,hi,hx⟩:=hrel
  by_cases hlt:i<xs.length
  ·rcases g4 with g4|⟨b,o,rfl,gb1,gb2,g4⟩
   ·subst g4;simp at hlt
   ·rcases m4 with m4|⟨b',o',rfl,mb1,mb2,m4⟩
    ·subst m4;simp at hlt
    obtain ⟨cs,hcl,hP,hc⟩:=g4 i hlt
    obtain ⟨ds,hdl,hD,hd⟩:=m4 i hlt
    have HP:=StrP.keeps _ _ _ _ _ _ (Same.ext hx) hP
    have HD:=StrP.keeps _ _ _ _ _ _ (Same.ext hx) hD
    obtain ⟨rfl,e1⟩:=hP
    obtain ⟨rfl,e1⟩:=hD
    have q0:=hx.keep (hc 0 _ rfl)
    rw [Nat.mul_one,Nat.add_zero] at q0
    have r0:=hx.keep (hd 0 _ rfl)
    rw [Nat.mul_one,Nat.add_zero] at r0
    clear g4 m4 hc hd
    go_wp2_with fail
    refine wp_region_held_drew (S:=(fun w'=>Ext wr w')) (by kernel_rfl) ?_ (fun hHeld=>?_)
    ·exact (Ext.refl wr).drew
    refine tkP 0 ?_ ?_ ?_;rotate_left;focus (intro w;go_simp;try with_reducible rfl)
    try simp only [Act.put,aput]
    refine tkP 1 ?_ ?_ ?_;rotate_left;focus (intro w;go_simp;try with_reducible rfl)
    try simp only [Act.put,aput]
    refine tkP 2 ?_ ?_ ?_;rotate_left;focus (intro w;go_simp;try with_reducible rfl)
    try simp only [Act.put,aput]
    refine tkY 3 ?_ ?_ ?_;rotate_left;focus (intro w hSw;(try dsimp only at hSw);have s0:=Ext.keep hSw q0;have t0:=Ext.keep hSw r0;go_simp;try with_reducible rfl)
    try simp only [Act.put,aput]
    refine tkP 4 ?_ ?_ ?_;rotate_left;focus (intro w;go_simp;try with_reducible rfl)
    try simp only [Act.put,aput]
    refine tkP 5 ?_ ?_ ?_;rotate_left;focus (intro w;go_simp;try with_reducible rfl)
    try simp only [Act.put,aput]
    refine tkP 6 ?_ ?_ ?_;rotate_left;focus (intro w;go_simp;try with_reducible rfl)
    try simp only [Act.put,aput]
    refine tkY 7 ?_ ?_ ?_;rotate_left;focus (intro w hSw;(try dsimp only at hSw);have s0:=Ext.keep hSw q0;have t0:=Ext.keep hSw r0;go_simp;try with_reducible rfl)
    try simp only [Act.put,aput]
    refine tkP 8 ?_ ?_ ?_;rotate_left;focus (intro w;go_simp;try with_reducible rfl)
    try simp only [Act.put,aput]
    refine wpAnyH_done (by kernel_rfl) ?_ _
    all_goals go_wp2
    all_goals go_roundw
    case rel=>exact ⟨i+1,rfl,by omega,xw⟩
    all_goals (simp only [intOf];omega)
  ·go_wp2
   go_ret
   exact ⟨rfl,xw⟩
set_option maxRecDepth 100000 in
set_option maxHeartbeats 1600000 in
theorem c_laws_eqIntSS (l1 u1 l2 u2:Nat) (v1 v2:Value) (xs:List (List Int)) (w:World) (h1:SlV 1 RowP l1 u1 w v1 xs) (h2:SlV 1 RowP l2 u2 w v2 xs) :
 Calls Tryz.prog 81 #[v1,v2] w fun e w'=>e=.returned (.bool true)∧Ext w w':=by
 obtain ⟨a,k,rfl,g1,g2,g3,g4⟩:=h1
 obtain ⟨a',k',rfl,m1,m2,m3,m4⟩:=h2
 unfold maxLen at g2
 go_enter Tryz.func81,Tryz.ntmps81
 go_wp2
 go_loopw [5] (fun c wr=>∃i:Nat,c=.int .i64 i∧i≤xs.length∧Ext w wr) (fun c _=>xs.length - (intOf c).toNat)
 case atStart=>exact ⟨0,rfl,Nat.zero_le _,xw⟩
 case round=>
  obtain ⟨i,rfl,hi,hx⟩:=hrel
  by_cases hlt:i<xs.length
  ·rcases g4 with g4|⟨b,o,rfl,gb1,gb2,g4⟩
   ·subst g4;simp at hlt
   ·rcases m4 with m4|⟨b',o',rfl,mb1,mb2,m4⟩
    ·subst m4;simp at hlt
    obtain ⟨cs,hcl,hP,hc⟩:=g4 i hlt
    obtain ⟨ds,hdl,hD,hd⟩:=m4 i hlt
    have HP:=RowP.keeps _ _ _ _ _ _ (Same.ext hx) hP
    have HD:=RowP.keeps _ _ _ _ _ _ (Same.ext hx) hD
    obtain ⟨rv,rfl,e1⟩:=hP
    obtain ⟨rv',rfl,e1'⟩:=hD
    have q0:=hx.keep (hc 0 _ rfl)
    rw [Nat.mul_one,Nat.add_zero] at q0
    have r0:=hx.keep (hd 0 _ rfl)
    rw [Nat.mul_one,Nat.add_zero] at r0
    clear g4 m4 hc hd
    go_wp2_with fail
    refine wp_region_held_drew (S:=(fun w'=>Ext wr w')) (by kernel_rfl) ?_ (fun hHeld=>?_)
    ·exact (Ext.refl wr).drew
    refine tkP 0 ?_ ?_ ?_;rotate_left;focus (intro w;go_simp;try with_reducible rfl)
    try simp only [Act.put,aput]
    refine tkP 1 ?_ ?_ ?_;rotate_left;focus (intro w;go_simp;try with_reducible rfl)
    try simp only [Act.put,aput]
    refine tkP 2 ?_ ?_ ?_;rotate_left;focus (intro w;go_simp;try with_reducible rfl)
    try simp only [Act.put,aput]
    refine tkY 3 ?_ ?_ ?_;rotate_left;focus (intro w hSw;(try dsimp only at hSw);have s0:=Ext.keep hSw q0;have t0:=Ext.keep hSw r0;go_simp;try with_reducible rfl)
    try simp only [Act.put,aput]
    refine tkP 4 ?_ ?_ ?_;rotate_left;focus (intro w;go_simp;try with_reducible rfl)
    try simp only [Act.put,aput]
    refine tkP 5 ?_ ?_ ?_;rotate_left;focus (intro w;go_simp;try with_reducible rfl)
    try simp only [Act.put,aput]
    refine tkP 6 ?_ ?_ ?_;rotate_left;focus (intro w;go_simp;try with_reducible rfl)
    try simp only [Act.put,aput]
    refine tkY 7 ?_ ?_ ?_;rotate_left;focus (intro w hSw;(try dsimp only at hSw);have s0:=Ext.keep hSw q0;have t0:=Ext.keep hSw r0;go_simp;try with_reducible rfl)
    try simp only [Act.put,aput]
    refine wpAnyH_ready (rs:=[8]) (by kernel_rfl) (by simp) ?_
    refine AllReadyH.cons rfl (fun K hK=>?_) AllReadyH.nil
    (try simp only [aput])
    go_simp
    (go_at_call 18;refine (c_laws_eqIntS l1 u1 l2 u2 _ _ _ _ (e1.keeps IntP.keeps (Same.ext (hx.trans hHeld))) (e1'.keeps IntP.keeps (Same.ext (hx.trans hHeld)))).mono ?_;rintro e w3 ⟨rfl,hb3⟩)
    show K _ _
    refine hK.out _ _ (by exact hHeld.trans hb3) (fun hHeld=>?_)
    clear hK K
    try simp only [Act.put,aput]
    refine tkP 9 ?_ ?_ ?_;rotate_left;focus (intro w;go_simp;try with_reducible rfl)
    try simp only [Act.put,aput]
    refine wpAnyH_done (by kernel_rfl) ?_ _
    all_goals go_wp2
    all_goals go_roundw
    case rel=>exact ⟨i+1,rfl,by omega,xw⟩
    all_goals (simp only [intOf];omega)
  ·go_wp2
   go_ret
   exact ⟨rfl,xw⟩
set_option maxRecDepth 100000 in
set_option maxHeartbeats 1600000 in
theorem c_laws_eqControl (l1 u1 l2 u2:Nat) (cs ds:List Value) (x:Ctl) (w:World) (h1:CtlP l1 u1 w cs x) (h2:CtlP l2 u2 w ds x) :
 Calls Tryz.prog 80 #[.agg cs.toArray,.agg ds.toArray] w fun e w'=>e=.returned (.bool true)∧Ext w w':=by
 obtain ⟨rfl,e1,e2,e3⟩:=h1
 obtain ⟨rfl,_⟩:=h2
 go_enter Tryz.func80,Tryz.ntmps80
 go_wp2_with fail
 go_ret
 exact ⟨rfl,xw⟩
set_option maxRecDepth 100000 in
set_option maxHeartbeats 1600000 in
theorem c_laws_eqWire (l1 u1 l2 u2:Nat) (cs ds:List Value) (x:Wr) (w:World) (h1:WrP l1 u1 w cs x) (h2:WrP l2 u2 w ds x) :
 Calls Tryz.prog 192 #[.agg cs.toArray,.agg ds.toArray] w fun e w'=>e=.returned (.bool true)∧Ext w w':=by
 obtain ⟨rfl,e1,e2⟩:=h1
 obtain ⟨rfl,_⟩:=h2
 go_enter Tryz.func192,Tryz.ntmps192
 go_wp2_with fail
 go_ret
 exact ⟨rfl,xw⟩
set_option maxRecDepth 100000 in
set_option maxHeartbeats 1600000 in
theorem c_laws_eqControlS (l1 u1 l2 u2:Nat) (v1 v2:Value) (xs:List Ctl) (w:World) (h1:SlV 3 CtlP l1 u1 w v1 xs) (h2:SlV 3 CtlP l2 u2 w v2 xs) :
 Calls Tryz.prog 32 #[v1,v2] w fun e w'=>e=.returned (.bool true)∧Ext w w':=by
 obtain ⟨a,k,rfl,g1,g2,g3,g4⟩:=h1
 obtain ⟨a',k',rfl,m1,m2,m3,m4⟩:=h2
 unfold maxLen at g2
 go_enter Tryz.func32,Tryz.ntmps32
 go_wp2
 go_loopw [5] (fun c wr=>∃i:Nat,c=.int .i64 i∧i≤xs.length∧Ext w wr) (fun c _=>xs.length - (intOf c).toNat)
 case atStart=>exact ⟨0,rfl,Nat.zero_le _,xw⟩
 case round=>
  obtain ⟨i,rfl,hi,hx⟩:=hrel
  by_cases hlt:i<xs.length
  ·rcases g4 with g4|⟨b,o,rfl,gb1,gb2,g4⟩
   ·subst g4;simp at hlt
   ·rcases m4 with m4|⟨b',o',rfl,mb1,mb2,m4⟩
    ·subst m4;simp at hlt
    obtain ⟨cs,hcl,hP,hc⟩:=g4 i hlt
    obtain ⟨ds,hdl,hD,hd⟩:=m4 i hlt
    have HP:=CtlP.keeps _ _ _ _ _ _ (Same.ext hx) hP
    have HD:=CtlP.keeps _ _ _ _ _ _ (Same.ext hx) hD
    obtain ⟨rfl,e1,e2,e3⟩:=hP
    obtain ⟨rfl,_⟩:=hD
    have q0:=hx.keep (hc 0 _ rfl)
    have q1:=hx.keep (hc 1 _ rfl)
    have q2:=hx.keep (hc 2 _ rfl)
    rw [Nat.add_zero] at q0
    have r0:=hx.keep (hd 0 _ rfl)
    have r1:=hx.keep (hd 1 _ rfl)
    have r2:=hx.keep (hd 2 _ rfl)
    rw [Nat.add_zero] at r0
    clear g4 m4 hc hd
    go_wp2_with fail
    refine wp_region_held_drew (S:=(fun w'=>Ext wr w')) (by kernel_rfl) ?_ (fun hHeld=>?_)
    ·exact (Ext.refl wr).drew
    refine tkP 0 ?_ ?_ ?_;rotate_left;focus (intro w;go_simp;try with_reducible rfl)
    try simp only [Act.put,aput]
    refine tkP 1 ?_ ?_ ?_;rotate_left;focus (intro w;go_simp;try with_reducible rfl)
    try simp only [Act.put,aput]
    refine tkP 2 ?_ ?_ ?_;rotate_left;focus (intro w;go_simp;try with_reducible rfl)
    try simp only [Act.put,aput]
    refine tkY 3 ?_ ?_ ?_;rotate_left;focus (intro w hSw;(try dsimp only at hSw);have s0:=Ext.keep hSw q0;have s1:=Ext.keep hSw q1;have s2:=Ext.keep hSw q2;have t0:=Ext.keep hSw r0;have t1:=Ext.keep hSw r1;have t2:=Ext.keep hSw r2;go_simp;try with_reducible rfl)
    try simp only [Act.put,aput]
    refine tkP 4 ?_ ?_ ?_;rotate_left;focus (intro w;go_simp;try with_reducible rfl)
    try simp only [Act.put,aput]
    refine tkP 5 ?_ ?_ ?_;rotate_left;focus (intro w;go_simp;try with_reducible rfl)
    try simp only [Act.put,aput]
    refine tkP 6 ?_ ?_ ?_;rotate_left;focus (intro w;go_simp;try with_reducible rfl)
    try simp only [Act.put,aput]
    refine tkY 7 ?_ ?_ ?_;rotate_left;focus (intro w hSw;(try dsimp only at hSw);have s0:=Ext.keep hSw q0;have s1:=Ext.keep hSw q1;have s2:=Ext.keep hSw q2;have t0:=Ext.keep hSw r0;have t1:=Ext.keep hSw r1;have t2:=Ext.keep hSw r2;go_simp;try with_reducible rfl)
    try simp only [Act.put,aput]
    refine wpAnyH_ready (rs:=[8]) (by kernel_rfl) (by simp) ?_
    refine AllReadyH.cons rfl (fun K hK=>?_) AllReadyH.nil
    (try simp only [aput])
    go_simp
    (go_at_call 80;refine (c_laws_eqControl l1 u1 l2 u2 _ _ _ _ (CtlP.keeps _ _ _ _ _ _ (Same.ext hHeld) HP) (CtlP.keeps _ _ _ _ _ _ (Same.ext hHeld) HD)).mono ?_;rintro e w3 ⟨rfl,hb3⟩)
    show K _ _
    refine hK.out _ _ (by exact hHeld.trans hb3) (fun hHeld=>?_)
    clear hK K
    try simp only [Act.put,aput]
    refine tkP 9 ?_ ?_ ?_;rotate_left;focus (intro w;go_simp;try with_reducible rfl)
    try simp only [Act.put,aput]
    refine wpAnyH_done (by kernel_rfl) ?_ _
    all_goals go_wp2
    all_goals go_roundw
    case rel=>exact ⟨i+1,rfl,by omega,xw⟩
    all_goals (simp only [intOf];omega)
  ·go_wp2
   go_ret
   exact ⟨rfl,xw⟩
set_option maxRecDepth 100000 in
set_option maxHeartbeats 1600000 in
theorem c_laws_eqWireS (l1 u1 l2 u2:Nat) (v1 v2:Value) (xs:List Wr) (w:World) (h1:SlV 2 WrP l1 u1 w v1 xs) (h2:SlV 2 WrP l2 u2 w v2 xs) :
 Calls Tryz.prog 126 #[v1,v2] w fun e w'=>e=.returned (.bool true)∧Ext w w':=by
 obtain ⟨a,k,rfl,g1,g2,g3,g4⟩:=h1
 obtain ⟨a',k',rfl,m1,m2,m3,m4⟩:=h2
 unfold maxLen at g2
 go_enter Tryz.func126,Tryz.ntmps126
 go_wp2
 go_loopw [5] (fun c wr=>∃i:Nat,c=.int .i64 i∧i≤xs.length∧Ext w wr) (fun c _=>xs.length - (intOf c).toNat)
 case atStart=>exact ⟨0,rfl,Nat.zero_le _,xw⟩
 case round=>
  obtain ⟨i,rfl,hi,hx⟩:=hrel
  by_cases hlt:i<xs.length
  ·rcases g4 with g4|⟨b,o,rfl,gb1,gb2,g4⟩
   ·subst g4;simp at hlt
   ·rcases m4 with m4|⟨b',o',rfl,mb1,mb2,m4⟩
    ·subst m4;simp at hlt
    obtain ⟨cs,hcl,hP,hc⟩:=g4 i hlt
    obtain ⟨ds,hdl,hD,hd⟩:=m4 i hlt
    have HP:=WrP.keeps _ _ _ _ _ _ (Same.ext hx) hP
    have HD:=WrP.keeps _ _ _ _ _ _ (Same.ext hx) hD
    obtain ⟨rfl,e1,e2⟩:=hP
    obtain ⟨rfl,_⟩:=hD
    have q0:=hx.keep (hc 0 _ rfl)
    have q1:=hx.keep (hc 1 _ rfl)
    rw [Nat.add_zero] at q0
    have r0:=hx.keep (hd 0 _ rfl)
    have r1:=hx.keep (hd 1 _ rfl)
    rw [Nat.add_zero] at r0
    clear g4 m4 hc hd
    go_wp2_with fail
    refine wp_region_held_drew (S:=(fun w'=>Ext wr w')) (by kernel_rfl) ?_ (fun hHeld=>?_)
    ·exact (Ext.refl wr).drew
    refine tkP 0 ?_ ?_ ?_;rotate_left;focus (intro w;go_simp;try with_reducible rfl)
    try simp only [Act.put,aput]
    refine tkP 1 ?_ ?_ ?_;rotate_left;focus (intro w;go_simp;try with_reducible rfl)
    try simp only [Act.put,aput]
    refine tkP 2 ?_ ?_ ?_;rotate_left;focus (intro w;go_simp;try with_reducible rfl)
    try simp only [Act.put,aput]
    refine tkY 3 ?_ ?_ ?_;rotate_left;focus (intro w hSw;(try dsimp only at hSw);have s0:=Ext.keep hSw q0;have s1:=Ext.keep hSw q1;have t0:=Ext.keep hSw r0;have t1:=Ext.keep hSw r1;go_simp;try with_reducible rfl)
    try simp only [Act.put,aput]
    refine tkP 4 ?_ ?_ ?_;rotate_left;focus (intro w;go_simp;try with_reducible rfl)
    try simp only [Act.put,aput]
    refine tkP 5 ?_ ?_ ?_;rotate_left;focus (intro w;go_simp;try with_reducible rfl)
    try simp only [Act.put,aput]
    refine tkP 6 ?_ ?_ ?_;rotate_left;focus (intro w;go_simp;try with_reducible rfl)
    try simp only [Act.put,aput]
    refine tkY 7 ?_ ?_ ?_;rotate_left;focus (intro w hSw;(try dsimp only at hSw);have s0:=Ext.keep hSw q0;have s1:=Ext.keep hSw q1;have t0:=Ext.keep hSw r0;have t1:=Ext.keep hSw r1;go_simp;try with_reducible rfl)
    try simp only [Act.put,aput]
    refine wpAnyH_ready (rs:=[8]) (by kernel_rfl) (by simp) ?_
    refine AllReadyH.cons rfl (fun K hK=>?_) AllReadyH.nil
    (try simp only [aput])
    go_simp
    (go_at_call 192;refine (c_laws_eqWire l1 u1 l2 u2 _ _ _ _ (WrP.keeps _ _ _ _ _ _ (Same.ext hHeld) HP) (WrP.keeps _ _ _ _ _ _ (Same.ext hHeld) HD)).mono ?_;rintro e w3 ⟨rfl,hb3⟩)
    show K _ _
    refine hK.out _ _ (by exact hHeld.trans hb3) (fun hHeld=>?_)
    clear hK K
    try simp only [Act.put,aput]
    refine tkP 9 ?_ ?_ ?_;rotate_left;focus (intro w;go_simp;try with_reducible rfl)
    try simp only [Act.put,aput]
    refine wpAnyH_done (by kernel_rfl) ?_ _
    all_goals go_wp2
    all_goals go_roundw
    case rel=>exact ⟨i+1,rfl,by omega,xw⟩
    all_goals (simp only [intOf];omega)
  ·go_wp2
   go_ret
   exact ⟨rfl,xw⟩
set_option maxRecDepth 100000 in
set_option maxHeartbeats 1600000 in
theorem c_laws_eqNode (l1 u1 l2 u2:Nat) (cs ds:List Value) (x:Nd) (w:World) (h1:NdP l1 u1 w cs x) (h2:NdP l2 u2 w ds x) :
 Calls Tryz.prog 191 #[.agg cs.toArray,.agg ds.toArray] w fun e w'=>e=.returned (.bool true)∧Ext w w':=by
 obtain ⟨nv,rfl,e1,e2,e3⟩:=h1
 obtain ⟨nv',rfl,_,_,e3'⟩:=h2
 go_enter Tryz.func191,Tryz.ntmps191
 go_wp2_with fail
 refine (c_laws_eqIntS l1 u1 l2 u2 _ _ _ _ (e3.keeps IntP.keeps (Same.ext xw)) (e3'.keeps IntP.keeps (Same.ext xw))).mono ?_
 rintro e y0 ⟨rfl,hb0⟩
 have q0:=hb0.keep (p:=⟨w.heap.size,0,none⟩) (v:=.int .i64 x.control) (by simp [go_sem])
 have r0:=hb0.keep (p:=⟨w.heap.size+1,0,none⟩) (v:=.int .i64 x.control) (by simp [go_sem])
 have q1:=hb0.keep (p:=⟨w.heap.size,1,none⟩) (v:=.int .i64 x.parent) (by simp [go_sem])
 have r1:=hb0.keep (p:=⟨w.heap.size+1,1,none⟩) (v:=.int .i64 x.parent) (by simp [go_sem])
 have q2:=hb0.keep (p:=⟨w.heap.size,2,none⟩) (v:=nv) (by simp [go_sem])
 have r2:=hb0.keep (p:=⟨w.heap.size+1,2,none⟩) (v:=nv') (by simp [go_sem])
 go_wp2_with fail
 go_ret
 exact ⟨rfl,xw⟩
set_option maxRecDepth 100000 in
set_option maxHeartbeats 1600000 in
theorem c_laws_eqNodeS (l1 u1 l2 u2:Nat) (v1 v2:Value) (xs:List Nd) (w:World) (h1:SlV 3 NdP l1 u1 w v1 xs) (h2:SlV 3 NdP l2 u2 w v2 xs) :
 Calls Tryz.prog 125 #[v1,v2] w fun e w'=>e=.returned (.bool true)∧Ext w w':=by
 obtain ⟨a,k,rfl,g1,g2,g3,g4⟩:=h1
 obtain ⟨a',k',rfl,m1,m2,m3,m4⟩:=h2
 unfold maxLen at g2
 go_enter Tryz.func125,Tryz.ntmps125
 go_wp2
 go_loopw [5] (fun c wr=>∃i:Nat,c=.int .i64 i∧i≤xs.length∧Ext w wr) (fun c _=>xs.length - (intOf c).toNat)
 case atStart=>exact ⟨0,rfl,Nat.zero_le _,xw⟩
 case round=>
  obtain ⟨i,rfl,hi,hx⟩:=hrel
  by_cases hlt:i<xs.length
  ·rcases g4 with g4|⟨b,o,rfl,gb1,gb2,g4⟩
   ·subst g4;simp at hlt
   ·rcases m4 with m4|⟨b',o',rfl,mb1,mb2,m4⟩
    ·subst m4;simp at hlt
    obtain ⟨cs,hcl,hP,hc⟩:=g4 i hlt
    obtain ⟨ds,hdl,hD,hd⟩:=m4 i hlt
    have HP:=NdP.keeps _ _ _ _ _ _ (Same.ext hx) hP
    have HD:=NdP.keeps _ _ _ _ _ _ (Same.ext hx) hD
    obtain ⟨nv,rfl,e1,e2,e3⟩:=hP
    obtain ⟨nv',rfl,_⟩:=hD
    have q0:=hx.keep (hc 0 _ rfl)
    have q1:=hx.keep (hc 1 _ rfl)
    have q2:=hx.keep (hc 2 _ rfl)
    rw [Nat.add_zero] at q0
    have r0:=hx.keep (hd 0 _ rfl)
    have r1:=hx.keep (hd 1 _ rfl)
    have r2:=hx.keep (hd 2 _ rfl)
    rw [Nat.add_zero] at r0
    clear g4 m4 hc hd
    go_wp2_with fail
    refine wp_region_held_drew (S:=(fun w'=>Ext wr w')) (by kernel_rfl) ?_ (fun hHeld=>?_)
    ·exact (Ext.refl wr).drew
    refine tkP 0 ?_ ?_ ?_;rotate_left;focus (intro w;go_simp;try with_reducible rfl)
    try simp only [Act.put,aput]
    refine tkP 1 ?_ ?_ ?_;rotate_left;focus (intro w;go_simp;try with_reducible rfl)
    try simp only [Act.put,aput]
    refine tkP 2 ?_ ?_ ?_;rotate_left;focus (intro w;go_simp;try with_reducible rfl)
    try simp only [Act.put,aput]
    refine tkY 3 ?_ ?_ ?_;rotate_left;focus (intro w hSw;(try dsimp only at hSw);have s0:=Ext.keep hSw q0;have s1:=Ext.keep hSw q1;have s2:=Ext.keep hSw q2;have t0:=Ext.keep hSw r0;have t1:=Ext.keep hSw r1;have t2:=Ext.keep hSw r2;go_simp;try with_reducible rfl)
    try simp only [Act.put,aput]
    refine tkP 4 ?_ ?_ ?_;rotate_left;focus (intro w;go_simp;try with_reducible rfl)
    try simp only [Act.put,aput]
    refine tkP 5 ?_ ?_ ?_;rotate_left;focus (intro w;go_simp;try with_reducible rfl)
    try simp only [Act.put,aput]
    refine tkP 6 ?_ ?_ ?_;rotate_left;focus (intro w;go_simp;try with_reducible rfl)
    try simp only [Act.put,aput]
    refine tkY 7 ?_ ?_ ?_;rotate_left;focus (intro w hSw;(try dsimp only at hSw);have s0:=Ext.keep hSw q0;have s1:=Ext.keep hSw q1;have s2:=Ext.keep hSw q2;have t0:=Ext.keep hSw r0;have t1:=Ext.keep hSw r1;have t2:=Ext.keep hSw r2;go_simp;try with_reducible rfl)
    try simp only [Act.put,aput]
    refine wpAnyH_ready (rs:=[8]) (by kernel_rfl) (by simp) ?_
    refine AllReadyH.cons rfl (fun K hK=>?_) AllReadyH.nil
    (try simp only [aput])
    go_simp
    (go_at_call 191;refine (c_laws_eqNode l1 u1 l2 u2 _ _ _ _ (NdP.keeps _ _ _ _ _ _ (Same.ext hHeld) HP) (NdP.keeps _ _ _ _ _ _ (Same.ext hHeld) HD)).mono ?_;rintro e w3 ⟨rfl,hb3⟩)
    show K _ _
    refine hK.out _ _ (by exact hHeld.trans hb3) (fun hHeld=>?_)
    clear hK K
    try simp only [Act.put,aput]
    refine tkP 9 ?_ ?_ ?_;rotate_left;focus (intro w;go_simp;try with_reducible rfl)
    try simp only [Act.put,aput]
    refine wpAnyH_done (by kernel_rfl) ?_ _
    all_goals go_wp2
    all_goals go_roundw
    case rel=>exact ⟨i+1,rfl,by omega,xw⟩
    all_goals (simp only [intOf];omega)
  ·go_wp2
   go_ret
   exact ⟨rfl,xw⟩
set_option maxRecDepth 100000 in
set_option maxHeartbeats 1600000 in
theorem c_laws_eqBigraph (l1 u1 l2 u2:Nat) (cs ds:List Value) (x:Big) (w:World) (h1:BigP l1 u1 w cs x) (h2:BigP l2 u2 w ds x) :
 Calls Tryz.prog 60 #[.agg cs.toArray,.agg ds.toArray] w fun e w'=>e=.returned (.bool true)∧Ext w w':=by
 obtain ⟨v1,v2,v4,v5,rfl,e1,e2,eN,eS,eO,eI⟩:=h1
 obtain ⟨v1',v2',v4',v5',rfl,_,_,eN',eS',eO',eI'⟩:=h2
 go_enter Tryz.func60,Tryz.ntmps60
 go_wp2_with fail
 refine (c_laws_eqNodeS l1 u1 l2 u2 _ _ _ _ (eN.keeps NdP.keeps (Same.ext xw)) (eN'.keeps NdP.keeps (Same.ext xw))).mono ?_
 rintro e y0 ⟨rfl,hb0⟩
 have q0:=hb0.keep (p:=⟨w.heap.size,0,none⟩) (v:=.int .i64 x.roots) (by simp [go_sem])
 have r0:=hb0.keep (p:=⟨w.heap.size+1,0,none⟩) (v:=.int .i64 x.roots) (by simp [go_sem])
 have q1:=hb0.keep (p:=⟨w.heap.size,1,none⟩) (v:=v1) (by simp [go_sem])
 have r1:=hb0.keep (p:=⟨w.heap.size+1,1,none⟩) (v:=v1') (by simp [go_sem])
 have q2:=hb0.keep (p:=⟨w.heap.size,2,none⟩) (v:=v2) (by simp [go_sem])
 have r2:=hb0.keep (p:=⟨w.heap.size+1,2,none⟩) (v:=v2') (by simp [go_sem])
 have q3:=hb0.keep (p:=⟨w.heap.size,3,none⟩) (v:=.int .i64 x.edges) (by simp [go_sem])
 have r3:=hb0.keep (p:=⟨w.heap.size+1,3,none⟩) (v:=.int .i64 x.edges) (by simp [go_sem])
 have q4:=hb0.keep (p:=⟨w.heap.size,4,none⟩) (v:=v4) (by simp [go_sem])
 have r4:=hb0.keep (p:=⟨w.heap.size+1,4,none⟩) (v:=v4') (by simp [go_sem])
 have q5:=hb0.keep (p:=⟨w.heap.size,5,none⟩) (v:=v5) (by simp [go_sem])
 have r5:=hb0.keep (p:=⟨w.heap.size+1,5,none⟩) (v:=v5') (by simp [go_sem])
 go_wp2_with fail
 refine (c_laws_eqIntS l1 u1 l2 u2 _ _ _ _ (eS.keeps IntP.keeps (Same.ext xw)) (eS'.keeps IntP.keeps (Same.ext xw))).mono ?_
 rintro e y1 ⟨rfl,hb1⟩
 replace q0:=hb1.keep q0
 replace r0:=hb1.keep r0
 replace q1:=hb1.keep q1
 replace r1:=hb1.keep r1
 replace q2:=hb1.keep q2
 replace r2:=hb1.keep r2
 replace q3:=hb1.keep q3
 replace r3:=hb1.keep r3
 replace q4:=hb1.keep q4
 replace r4:=hb1.keep r4
 replace q5:=hb1.keep q5
 replace r5:=hb1.keep r5
 go_wp2_with fail
 refine (c_laws_eqStringS l1 u1 l2 u2 _ _ _ _ (eO.keeps StrP.keeps (Same.ext xw)) (eO'.keeps StrP.keeps (Same.ext xw))).mono ?_
 rintro e y2 ⟨rfl,hb2⟩
 replace q0:=hb2.keep q0
 replace r0:=hb2.keep r0
 replace q1:=hb2.keep q1
 replace r1:=hb2.keep r1
 replace q2:=hb2.keep q2
 replace r2:=hb2.keep r2
 replace q3:=hb2.keep q3
 replace r3:=hb2.keep r3
 replace q4:=hb2.keep q4
 replace r4:=hb2.keep r4
 replace q5:=hb2.keep q5
 replace r5:=hb2.keep r5
 go_wp2_with fail
 refine (c_laws_eqWireS l1 u1 l2 u2 _ _ _ _ (eI.keeps WrP.keeps (Same.ext xw)) (eI'.keeps WrP.keeps (Same.ext xw))).mono ?_
 rintro e y3 ⟨rfl,hb3⟩
 replace q0:=hb3.keep q0
 replace r0:=hb3.keep r0
 replace q1:=hb3.keep q1
 replace r1:=hb3.keep r1
 replace q2:=hb3.keep q2
 replace r2:=hb3.keep r2
 replace q3:=hb3.keep q3
 replace r3:=hb3.keep r3
 replace q4:=hb3.keep q4
 replace r4:=hb3.keep r4
 replace q5:=hb3.keep q5
 replace r5:=hb3.keep r5
 go_wp2_with fail
 go_ret
 exact ⟨rfl,xw⟩
set_option maxRecDepth 100000 in
set_option maxHeartbeats 1600000 in
theorem c_laws_eqRule (l1 u1 l2 u2:Nat) (cs ds:List Value) (x:Rul) (w:World) (h1:RulP l1 u1 w cs x) (h2:RulP l2 u2 w ds x) :
 Calls Tryz.prog 83 #[.agg cs.toArray,.agg ds.toArray] w fun e w'=>e=.returned (.bool true)∧Ext w w':=by
 obtain ⟨c1,c2,v,rfl,B1,B2,eC⟩:=h1
 obtain ⟨c1',c2',v',rfl,B1',B2',eC'⟩:=h2
 have A1:=B1
 have A2:=B2
 have A1':=B1'
 have A2':=B2'
 obtain ⟨x1,x2,x4,x5,rfl,_⟩:=A1
 obtain ⟨x1',x2',x4',x5',rfl,_⟩:=A1'
 obtain ⟨z1,z2,z4,z5,rfl,_⟩:=A2
 obtain ⟨z1',z2',z4',z5',rfl,_⟩:=A2'
 go_enter Tryz.func83,Tryz.ntmps83
 go_wp2_with fail
 refine (c_laws_eqBigraph l1 u1 l2 u2 _ _ _ _ (BigP.keeps _ _ _ _ _ _ (Same.ext xw) B1) (BigP.keeps _ _ _ _ _ _ (Same.ext xw) B1')).mono ?_
 rintro e y0 ⟨rfl,hb0⟩
 have q0:=hb0.keep (p:=⟨w.heap.size,0,none⟩) (v:=.int .i64 x.redex.roots) (by simp [go_sem])
 have r0:=hb0.keep (p:=⟨w.heap.size+1,0,none⟩) (v:=.int .i64 x.redex.roots) (by simp [go_sem])
 have q1:=hb0.keep (p:=⟨w.heap.size,1,none⟩) (v:=x1) (by simp [go_sem])
 have r1:=hb0.keep (p:=⟨w.heap.size+1,1,none⟩) (v:=x1') (by simp [go_sem])
 have q2:=hb0.keep (p:=⟨w.heap.size,2,none⟩) (v:=x2) (by simp [go_sem])
 have r2:=hb0.keep (p:=⟨w.heap.size+1,2,none⟩) (v:=x2') (by simp [go_sem])
 have q3:=hb0.keep (p:=⟨w.heap.size,3,none⟩) (v:=.int .i64 x.redex.edges) (by simp [go_sem])
 have r3:=hb0.keep (p:=⟨w.heap.size+1,3,none⟩) (v:=.int .i64 x.redex.edges) (by simp [go_sem])
 have q4:=hb0.keep (p:=⟨w.heap.size,4,none⟩) (v:=x4) (by simp [go_sem])
 have r4:=hb0.keep (p:=⟨w.heap.size+1,4,none⟩) (v:=x4') (by simp [go_sem])
 have q5:=hb0.keep (p:=⟨w.heap.size,5,none⟩) (v:=x5) (by simp [go_sem])
 have r5:=hb0.keep (p:=⟨w.heap.size+1,5,none⟩) (v:=x5') (by simp [go_sem])
 have q6:=hb0.keep (p:=⟨w.heap.size,6,none⟩) (v:=.int .i64 x.reactum.roots) (by simp [go_sem])
 have r6:=hb0.keep (p:=⟨w.heap.size+1,6,none⟩) (v:=.int .i64 x.reactum.roots) (by simp [go_sem])
 have q7:=hb0.keep (p:=⟨w.heap.size,7,none⟩) (v:=z1) (by simp [go_sem])
 have r7:=hb0.keep (p:=⟨w.heap.size+1,7,none⟩) (v:=z1') (by simp [go_sem])
 have q8:=hb0.keep (p:=⟨w.heap.size,8,none⟩) (v:=z2) (by simp [go_sem])
 have r8:=hb0.keep (p:=⟨w.heap.size+1,8,none⟩) (v:=z2') (by simp [go_sem])
 have q9:=hb0.keep (p:=⟨w.heap.size,9,none⟩) (v:=.int .i64 x.reactum.edges) (by simp [go_sem])
 have r9:=hb0.keep (p:=⟨w.heap.size+1,9,none⟩) (v:=.int .i64 x.reactum.edges) (by simp [go_sem])
 have q10:=hb0.keep (p:=⟨w.heap.size,10,none⟩) (v:=z4) (by simp [go_sem])
 have r10:=hb0.keep (p:=⟨w.heap.size+1,10,none⟩) (v:=z4') (by simp [go_sem])
 have q11:=hb0.keep (p:=⟨w.heap.size,11,none⟩) (v:=z5) (by simp [go_sem])
 have r11:=hb0.keep (p:=⟨w.heap.size+1,11,none⟩) (v:=z5') (by simp [go_sem])
 have q12:=hb0.keep (p:=⟨w.heap.size,12,none⟩) (v:=v) (by simp [go_sem])
 have r12:=hb0.keep (p:=⟨w.heap.size+1,12,none⟩) (v:=v') (by simp [go_sem])
 go_wp2_with fail
 refine (c_laws_eqBigraph l1 u1 l2 u2 _ _ _ _ (BigP.keeps _ _ _ _ _ _ (Same.ext xw) B2) (BigP.keeps _ _ _ _ _ _ (Same.ext xw) B2')).mono ?_
 rintro e y1 ⟨rfl,hb1⟩
 replace q0:=hb1.keep q0
 replace r0:=hb1.keep r0
 replace q1:=hb1.keep q1
 replace r1:=hb1.keep r1
 replace q2:=hb1.keep q2
 replace r2:=hb1.keep r2
 replace q3:=hb1.keep q3
 replace r3:=hb1.keep r3
 replace q4:=hb1.keep q4
 replace r4:=hb1.keep r4
 replace q5:=hb1.keep q5
 replace r5:=hb1.keep r5
 replace q6:=hb1.keep q6
 replace r6:=hb1.keep r6
 replace q7:=hb1.keep q7
 replace r7:=hb1.keep r7
 replace q8:=hb1.keep q8
 replace r8:=hb1.keep r8
 replace q9:=hb1.keep q9
 replace r9:=hb1.keep r9
 replace q10:=hb1.keep q10
 replace r10:=hb1.keep r10
 replace q11:=hb1.keep q11
 replace r11:=hb1.keep r11
 replace q12:=hb1.keep q12
 replace r12:=hb1.keep r12
 go_wp2_with fail
 refine (c_laws_eqIntS l1 u1 l2 u2 _ _ _ _ (eC.keeps IntP.keeps (Same.ext xw)) (eC'.keeps IntP.keeps (Same.ext xw))).mono ?_
 rintro e y2 ⟨rfl,hb2⟩
 replace q0:=hb2.keep q0
 replace r0:=hb2.keep r0
 replace q1:=hb2.keep q1
 replace r1:=hb2.keep r1
 replace q2:=hb2.keep q2
 replace r2:=hb2.keep r2
 replace q3:=hb2.keep q3
 replace r3:=hb2.keep r3
 replace q4:=hb2.keep q4
 replace r4:=hb2.keep r4
 replace q5:=hb2.keep q5
 replace r5:=hb2.keep r5
 replace q6:=hb2.keep q6
 replace r6:=hb2.keep r6
 replace q7:=hb2.keep q7
 replace r7:=hb2.keep r7
 replace q8:=hb2.keep q8
 replace r8:=hb2.keep r8
 replace q9:=hb2.keep q9
 replace r9:=hb2.keep r9
 replace q10:=hb2.keep q10
 replace r10:=hb2.keep r10
 replace q11:=hb2.keep q11
 replace r11:=hb2.keep r11
 replace q12:=hb2.keep q12
 replace r12:=hb2.keep r12
 go_wp2_with fail
 go_ret
 exact ⟨rfl,xw⟩
set_option maxRecDepth 100000 in
set_option maxHeartbeats 1600000 in
theorem c_laws_eqRuleS (l1 u1 l2 u2:Nat) (v1 v2:Value) (xs:List Rul) (w:World) (h1:SlV 13 RulP l1 u1 w v1 xs) (h2:SlV 13 RulP l2 u2 w v2 xs) :
 Calls Tryz.prog 34 #[v1,v2] w fun e w'=>e=.returned (.bool true)∧Ext w w':=by
 obtain ⟨a,k,rfl,g1,g2,g3,g4⟩:=h1
 obtain ⟨a',k',rfl,m1,m2,m3,m4⟩:=h2
 unfold maxLen at g2
 go_enter Tryz.func34,Tryz.ntmps34
 go_wp2
 go_loopw [5] (fun c wr=>∃i:Nat,c=.int .i64 i∧i≤xs.length∧Ext w wr) (fun c _=>xs.length - (intOf c).toNat)
 case atStart=>exact ⟨0,rfl,Nat.zero_le _,xw⟩
 case round=>
  obtain ⟨i,rfl,hi,hx⟩:=hrel
  by_cases hlt:i<xs.length
  ·rcases g4 with g4|⟨b,o,rfl,gb1,gb2,g4⟩
   ·subst g4;simp at hlt
   ·rcases m4 with m4|⟨b',o',rfl,mb1,mb2,m4⟩
    ·subst m4;simp at hlt
    obtain ⟨cs,hcl,hP,hc⟩:=g4 i hlt
    obtain ⟨ds,hdl,hD,hd⟩:=m4 i hlt
    have HP:=RulP.keeps _ _ _ _ _ _ (Same.ext hx) hP
    have HD:=RulP.keeps _ _ _ _ _ _ (Same.ext hx) hD
    obtain ⟨c1,c2,v,rfl,⟨x1,x2,x4,x5,rfl,_⟩,⟨z1,z2,z4,z5,rfl,_⟩,_⟩:=hP
    obtain ⟨c1',c2',v',rfl,⟨x1',x2',x4',x5',rfl,_⟩,⟨z1',z2',z4',z5',rfl,_⟩,_⟩:=hD
    have q0:=hx.keep (hc 0 _ rfl)
    have q1:=hx.keep (hc 1 _ rfl)
    have q2:=hx.keep (hc 2 _ rfl)
    have q3:=hx.keep (hc 3 _ rfl)
    have q4:=hx.keep (hc 4 _ rfl)
    have q5:=hx.keep (hc 5 _ rfl)
    have q6:=hx.keep (hc 6 _ rfl)
    have q7:=hx.keep (hc 7 _ rfl)
    have q8:=hx.keep (hc 8 _ rfl)
    have q9:=hx.keep (hc 9 _ rfl)
    have q10:=hx.keep (hc 10 _ rfl)
    have q11:=hx.keep (hc 11 _ rfl)
    have q12:=hx.keep (hc 12 _ rfl)
    rw [Nat.add_zero] at q0
    have r0:=hx.keep (hd 0 _ rfl)
    have r1:=hx.keep (hd 1 _ rfl)
    have r2:=hx.keep (hd 2 _ rfl)
    have r3:=hx.keep (hd 3 _ rfl)
    have r4:=hx.keep (hd 4 _ rfl)
    have r5:=hx.keep (hd 5 _ rfl)
    have r6:=hx.keep (hd 6 _ rfl)
    have r7:=hx.keep (hd 7 _ rfl)
    have r8:=hx.keep (hd 8 _ rfl)
    have r9:=hx.keep (hd 9 _ rfl)
    have r10:=hx.keep (hd 10 _ rfl)
    have r11:=hx.keep (hd 11 _ rfl)
    have r12:=hx.keep (hd 12 _ rfl)
    rw [Nat.add_zero] at r0
    clear g4 m4 hc hd
    go_wp2_with fail
    refine wp_region_held_drew (S:=(fun w'=>Ext wr w')) (by kernel_rfl) ?_ (fun hHeld=>?_)
    ·exact (Ext.refl wr).drew
    refine tkP 0 ?_ ?_ ?_;rotate_left;focus (intro w;go_simp;try with_reducible rfl)
    try simp only [Act.put,aput]
    refine tkP 1 ?_ ?_ ?_;rotate_left;focus (intro w;go_simp;try with_reducible rfl)
    try simp only [Act.put,aput]
    refine tkP 2 ?_ ?_ ?_;rotate_left;focus (intro w;go_simp;try with_reducible rfl)
    try simp only [Act.put,aput]
    refine tkY 3 ?_ ?_ ?_;rotate_left;focus (intro w hSw;(try dsimp only at hSw);have s0:=Ext.keep hSw q0;have s1:=Ext.keep hSw q1;have s2:=Ext.keep hSw q2;have s3:=Ext.keep hSw q3;have s4:=Ext.keep hSw q4;have s5:=Ext.keep hSw q5;have s6:=Ext.keep hSw q6;have s7:=Ext.keep hSw q7;have s8:=Ext.keep hSw q8;have s9:=Ext.keep hSw q9;have s10:=Ext.keep hSw q10;have s11:=Ext.keep hSw q11;have s12:=Ext.keep hSw q12;have t0:=Ext.keep hSw r0;have t1:=Ext.keep hSw r1;have t2:=Ext.keep hSw r2;have t3:=Ext.keep hSw r3;have t4:=Ext.keep hSw r4;have t5:=Ext.keep hSw r5;have t6:=Ext.keep hSw r6;have t7:=Ext.keep hSw r7;have t8:=Ext.keep hSw r8;have t9:=Ext.keep hSw r9;have t10:=Ext.keep hSw r10;have t11:=Ext.keep hSw r11;have t12:=Ext.keep hSw r12;go_simp;try with_reducible rfl)
    try simp only [Act.put,aput]
    refine tkP 4 ?_ ?_ ?_;rotate_left;focus (intro w;go_simp;try with_reducible rfl)
    try simp only [Act.put,aput]
    refine tkP 5 ?_ ?_ ?_;rotate_left;focus (intro w;go_simp;try with_reducible rfl)
    try simp only [Act.put,aput]
    refine tkP 6 ?_ ?_ ?_;rotate_left;focus (intro w;go_simp;try with_reducible rfl)
    try simp only [Act.put,aput]
    refine tkY 7 ?_ ?_ ?_;rotate_left;focus (intro w hSw;(try dsimp only at hSw);have s0:=Ext.keep hSw q0;have s1:=Ext.keep hSw q1;have s2:=Ext.keep hSw q2;have s3:=Ext.keep hSw q3;have s4:=Ext.keep hSw q4;have s5:=Ext.keep hSw q5;have s6:=Ext.keep hSw q6;have s7:=Ext.keep hSw q7;have s8:=Ext.keep hSw q8;have s9:=Ext.keep hSw q9;have s10:=Ext.keep hSw q10;have s11:=Ext.keep hSw q11;have s12:=Ext.keep hSw q12;have t0:=Ext.keep hSw r0;have t1:=Ext.keep hSw r1;have t2:=Ext.keep hSw r2;have t3:=Ext.keep hSw r3;have t4:=Ext.keep hSw r4;have t5:=Ext.keep hSw r5;have t6:=Ext.keep hSw r6;have t7:=Ext.keep hSw r7;have t8:=Ext.keep hSw r8;have t9:=Ext.keep hSw r9;have t10:=Ext.keep hSw r10;have t11:=Ext.keep hSw r11;have t12:=Ext.keep hSw r12;go_simp;try with_reducible rfl)
    try simp only [Act.put,aput]
    refine wpAnyH_ready (rs:=[8]) (by kernel_rfl) (by simp) ?_
    refine AllReadyH.cons rfl (fun K hK=>?_) AllReadyH.nil
    (try simp only [aput])
    go_simp
    (go_at_call 83;refine (c_laws_eqRule l1 u1 l2 u2 _ _ _ _ (RulP.keeps _ _ _ _ _ _ (Same.ext hHeld) HP) (RulP.keeps _ _ _ _ _ _ (Same.ext hHeld) HD)).mono ?_;rintro e w3 ⟨rfl,hb3⟩)
    show K _ _
    refine hK.out _ _ (by exact hHeld.trans hb3) (fun hHeld=>?_)
    clear hK K
    try simp only [Act.put,aput]
    refine tkP 9 ?_ ?_ ?_;rotate_left;focus (intro w;go_simp;try with_reducible rfl)
    try simp only [Act.put,aput]
    refine wpAnyH_done (by kernel_rfl) ?_ _
    all_goals go_wp2
    all_goals go_roundw
    case rel=>exact ⟨i+1,rfl,by omega,xw⟩
    all_goals (simp only [intOf];omega)
  ·go_wp2
   go_ret
   exact ⟨rfl,xw⟩
set_option maxHeartbeats 800000 in
theorem c_laws_eqIntA2 (l1 u1 l2 u2:Nat) (cs ds:List Value) (x:Int × Int) (w:World) (h1:PairP l1 u1 w cs x) (h2:PairP l2 u2 w ds x) :
 Calls Tryz.prog 139 #[.agg cs.toArray,.agg ds.toArray] w fun e w'=>e=.returned (.bool true)∧Ext w w':=by
 obtain ⟨rfl,e1,e2⟩:=h1
 obtain ⟨rfl,_⟩:=h2
 go_enter Tryz.func139,Tryz.ntmps139
 go_wp2
 go_loopw [5] (fun c wr=>∃i:Nat,c=.int .i64 i∧i≤2∧Ext w wr∧(∀j,wr.cell? ⟨w.heap.size,j,none⟩ = [Value.int .i64 x.1,.int .i64 x.2][j]?)∧(∀j,wr.cell? ⟨w.heap.size+1,j,none⟩ = [Value.int .i64 x.1,.int .i64 x.2][j]?)) (fun c _=>2 - (intOf c).toNat)
 case atStart=>exact ⟨0,rfl,Nat.zero_le _,xw,fun j=>by simp [go_sem],fun j=>by simp [go_sem]⟩
 case round=>
  obtain ⟨i,rfl,hi,hx,hq,hr⟩:=hrel
  have:i=0∨i=1∨i=2:=by omega
  rcases this with rfl|rfl|rfl
  ·have q0:=hq 0
   have r0:=hr 0
   simp only [List.getElem?_cons_zero] at q0 r0
   go_wp2_with (go_quiet (fail))
   go_roundw
   case rel=>exact ⟨1,rfl,by omega,xw,hq,hr⟩
   ·simp only [intOf];omega
  ·have q1:=hq 1
   have r1:=hr 1
   simp only [List.getElem?_cons_succ,List.getElem?_cons_zero] at q1 r1
   go_wp2_with (go_quiet (fail))
   go_roundw
   case rel=>exact ⟨2,rfl,by omega,xw,hq,hr⟩
   ·simp only [intOf];omega
  ·go_wp2
   go_ret
   exact ⟨rfl,xw⟩
set_option maxRecDepth 100000 in
set_option maxHeartbeats 1600000 in
theorem c_laws_eqIntA2S (l1 u1 l2 u2:Nat) (v1 v2:Value) (xs:List (Int × Int)) (w:World) (h1:SlV 2 PairP l1 u1 w v1 xs) (h2:SlV 2 PairP l2 u2 w v2 xs) :
 Calls Tryz.prog 82 #[v1,v2] w fun e w'=>e=.returned (.bool true)∧Ext w w':=by
 obtain ⟨a,k,rfl,g1,g2,g3,g4⟩:=h1
 obtain ⟨a',k',rfl,m1,m2,m3,m4⟩:=h2
 unfold maxLen at g2
 go_enter Tryz.func82,Tryz.ntmps82
 go_wp2
 go_loopw [5] (fun c wr=>∃i:Nat,c=.int .i64 i∧i≤xs.length∧Ext w wr) (fun c _=>xs.length - (intOf c).toNat)
 case atStart=>exact ⟨0,rfl,Nat.zero_le _,xw⟩
 case round=>
  obtain ⟨i,rfl,hi,hx⟩:=hrel
  by_cases hlt:i<xs.length
  ·rcases g4 with g4|⟨b,o,rfl,gb1,gb2,g4⟩
   ·subst g4;simp at hlt
   ·rcases m4 with m4|⟨b',o',rfl,mb1,mb2,m4⟩
    ·subst m4;simp at hlt
    obtain ⟨cs,hcl,hP,hc⟩:=g4 i hlt
    obtain ⟨ds,hdl,hD,hd⟩:=m4 i hlt
    have HP:=PairP.keeps _ _ _ _ _ _ (Same.ext hx) hP
    have HD:=PairP.keeps _ _ _ _ _ _ (Same.ext hx) hD
    obtain ⟨rfl,e1,e2⟩:=hP
    obtain ⟨rfl,_⟩:=hD
    have q0:=hx.keep (hc 0 _ rfl)
    have q1:=hx.keep (hc 1 _ rfl)
    rw [Nat.add_zero] at q0
    have r0:=hx.keep (hd 0 _ rfl)
    have r1:=hx.keep (hd 1 _ rfl)
    rw [Nat.add_zero] at r0
    clear g4 m4 hc hd
    go_wp2_with fail
    refine wp_region_held_drew (S:=(fun w'=>Ext wr w')) (by kernel_rfl) ?_ (fun hHeld=>?_)
    ·exact (Ext.refl wr).drew
    refine tkP 0 ?_ ?_ ?_;rotate_left;focus (intro w;go_simp;try with_reducible rfl)
    try simp only [Act.put,aput]
    refine tkP 1 ?_ ?_ ?_;rotate_left;focus (intro w;go_simp;try with_reducible rfl)
    try simp only [Act.put,aput]
    refine tkP 2 ?_ ?_ ?_;rotate_left;focus (intro w;go_simp;try with_reducible rfl)
    try simp only [Act.put,aput]
    refine tkY 3 ?_ ?_ ?_;rotate_left;focus (intro w hSw;(try dsimp only at hSw);have s0:=Ext.keep hSw q0;have s1:=Ext.keep hSw q1;have t0:=Ext.keep hSw r0;have t1:=Ext.keep hSw r1;go_simp;try with_reducible rfl)
    try simp only [Act.put,aput]
    refine tkP 4 ?_ ?_ ?_;rotate_left;focus (intro w;go_simp;try with_reducible rfl)
    try simp only [Act.put,aput]
    refine tkP 5 ?_ ?_ ?_;rotate_left;focus (intro w;go_simp;try with_reducible rfl)
    try simp only [Act.put,aput]
    refine tkP 6 ?_ ?_ ?_;rotate_left;focus (intro w;go_simp;try with_reducible rfl)
    try simp only [Act.put,aput]
    refine tkY 7 ?_ ?_ ?_;rotate_left;focus (intro w hSw;(try dsimp only at hSw);have s0:=Ext.keep hSw q0;have s1:=Ext.keep hSw q1;have t0:=Ext.keep hSw r0;have t1:=Ext.keep hSw r1;go_simp;try with_reducible rfl)
    try simp only [Act.put,aput]
    refine wpAnyH_ready (rs:=[8]) (by kernel_rfl) (by simp) ?_
    refine AllReadyH.cons rfl (fun K hK=>?_) AllReadyH.nil
    (try simp only [aput])
    go_simp
    (go_at_call 139;refine (c_laws_eqIntA2 l1 u1 l2 u2 _ _ _ _ (PairP.keeps _ _ _ _ _ _ (Same.ext hHeld) HP) (PairP.keeps _ _ _ _ _ _ (Same.ext hHeld) HD)).mono ?_;rintro e w3 ⟨rfl,hb3⟩)
    show K _ _
    refine hK.out _ _ (by exact hHeld.trans hb3) (fun hHeld=>?_)
    clear hK K
    try simp only [Act.put,aput]
    refine tkP 9 ?_ ?_ ?_;rotate_left;focus (intro w;go_simp;try with_reducible rfl)
    try simp only [Act.put,aput]
    refine wpAnyH_done (by kernel_rfl) ?_ _
    all_goals go_wp2
    all_goals go_roundw
    case rel=>exact ⟨i+1,rfl,by omega,xw⟩
    all_goals (simp only [intOf];omega)
  ·go_wp2
   go_ret
   exact ⟨rfl,xw⟩
set_option maxRecDepth 100000 in
set_option maxHeartbeats 1600000 in
theorem c_laws_eqSorting (l1 u1 l2 u2:Nat) (cs ds:List Value) (x:Srt) (w:World) (h1:SrtP l1 u1 w cs x) (h2:SrtP l2 u2 w ds x) :
 Calls Tryz.prog 33 #[.agg cs.toArray,.agg ds.toArray] w fun e w'=>e=.returned (.bool true)∧Ext w w':=by
 obtain ⟨v0,v1,v2,v3,v4,rfl,e0,e1,e2,e3,e4⟩:=h1
 obtain ⟨v0',v1',v2',v3',v4',rfl,e0',e1',e2',e3',e4'⟩:=h2
 go_enter Tryz.func33,Tryz.ntmps33
 go_wp2_with fail
 refine (c_laws_eqIntS l1 u1 l2 u2 _ _ _ _ (e0.keeps IntP.keeps (Same.ext xw)) (e0'.keeps IntP.keeps (Same.ext xw))).mono ?_
 rintro e y0 ⟨rfl,hb0⟩
 have q0:=hb0.keep (p:=⟨w.heap.size,0,none⟩) (v:=v0) (by simp [go_sem])
 have r0:=hb0.keep (p:=⟨w.heap.size+1,0,none⟩) (v:=v0') (by simp [go_sem])
 have q1:=hb0.keep (p:=⟨w.heap.size,1,none⟩) (v:=v1) (by simp [go_sem])
 have r1:=hb0.keep (p:=⟨w.heap.size+1,1,none⟩) (v:=v1') (by simp [go_sem])
 have q2:=hb0.keep (p:=⟨w.heap.size,2,none⟩) (v:=v2) (by simp [go_sem])
 have r2:=hb0.keep (p:=⟨w.heap.size+1,2,none⟩) (v:=v2') (by simp [go_sem])
 have q3:=hb0.keep (p:=⟨w.heap.size,3,none⟩) (v:=v3) (by simp [go_sem])
 have r3:=hb0.keep (p:=⟨w.heap.size+1,3,none⟩) (v:=v3') (by simp [go_sem])
 have q4:=hb0.keep (p:=⟨w.heap.size,4,none⟩) (v:=v4) (by simp [go_sem])
 have r4:=hb0.keep (p:=⟨w.heap.size+1,4,none⟩) (v:=v4') (by simp [go_sem])
 go_wp2_with fail
 refine (c_laws_eqIntSS l1 u1 l2 u2 _ _ _ _ (e1.keeps RowP.keeps (Same.ext xw)) (e1'.keeps RowP.keeps (Same.ext xw))).mono ?_
 rintro e y1 ⟨rfl,hb1⟩
 replace q0:=hb1.keep q0
 replace r0:=hb1.keep r0
 replace q1:=hb1.keep q1
 replace r1:=hb1.keep r1
 replace q2:=hb1.keep q2
 replace r2:=hb1.keep r2
 replace q3:=hb1.keep q3
 replace r3:=hb1.keep r3
 replace q4:=hb1.keep q4
 replace r4:=hb1.keep r4
 go_wp2_with fail
 refine (c_laws_eqIntSS l1 u1 l2 u2 _ _ _ _ (e2.keeps RowP.keeps (Same.ext xw)) (e2'.keeps RowP.keeps (Same.ext xw))).mono ?_
 rintro e y2 ⟨rfl,hb2⟩
 replace q0:=hb2.keep q0
 replace r0:=hb2.keep r0
 replace q1:=hb2.keep q1
 replace r1:=hb2.keep r1
 replace q2:=hb2.keep q2
 replace r2:=hb2.keep r2
 replace q3:=hb2.keep q3
 replace r3:=hb2.keep r3
 replace q4:=hb2.keep q4
 replace r4:=hb2.keep r4
 go_wp2_with fail
 refine (c_laws_eqIntS l1 u1 l2 u2 _ _ _ _ (e3.keeps IntP.keeps (Same.ext xw)) (e3'.keeps IntP.keeps (Same.ext xw))).mono ?_
 rintro e y3 ⟨rfl,hb3⟩
 replace q0:=hb3.keep q0
 replace r0:=hb3.keep r0
 replace q1:=hb3.keep q1
 replace r1:=hb3.keep r1
 replace q2:=hb3.keep q2
 replace r2:=hb3.keep r2
 replace q3:=hb3.keep q3
 replace r3:=hb3.keep r3
 replace q4:=hb3.keep q4
 replace r4:=hb3.keep r4
 go_wp2_with fail
 refine (c_laws_eqIntA2S l1 u1 l2 u2 _ _ _ _ (e4.keeps PairP.keeps (Same.ext xw)) (e4'.keeps PairP.keeps (Same.ext xw))).mono ?_
 rintro e y4 ⟨rfl,hb4⟩
 replace q0:=hb4.keep q0
 replace r0:=hb4.keep r0
 replace q1:=hb4.keep q1
 replace r1:=hb4.keep r1
 replace q2:=hb4.keep q2
 replace r2:=hb4.keep r2
 replace q3:=hb4.keep q3
 replace r3:=hb4.keep r3
 replace q4:=hb4.keep q4
 replace r4:=hb4.keep r4
 go_wp2_with fail
 go_ret
 exact ⟨rfl,xw⟩
set_option maxRecDepth 100000 in
set_option maxHeartbeats 1600000 in
theorem c_laws_eqRuntime (l1 u1 l2 u2:Nat) (cs ds:List Value) (x:Rnt) (w:World) (h1:RntP l1 u1 w cs x) (h2:RntP l2 u2 w ds x) :
 Calls Tryz.prog 13 #[.agg cs.toArray,.agg ds.toArray] w fun e w'=>e=.returned (.bool true)∧Ext w w':=by
 obtain ⟨v0,c1,v6,v7,c8,rfl,e0,E1,e6,e7,E8,ec⟩:=h1
 obtain ⟨v0',c1',v6',v7',c8',rfl,e0',E1',e6',e7',E8',_⟩:=h2
 have A1:=E1
 have A8:=E8
 have A1':=E1'
 have A8':=E8'
 obtain ⟨s0,s1,s2,s3,s4,rfl,_⟩:=A1
 obtain ⟨s0',s1',s2',s3',s4',rfl,_⟩:=A1'
 obtain ⟨x1,x2,x4,x5,rfl,_⟩:=A8
 obtain ⟨x1',x2',x4',x5',rfl,_⟩:=A8'
 go_enter Tryz.func13,Tryz.ntmps13
 go_wp2_with fail
 refine (c_laws_eqControlS l1 u1 l2 u2 _ _ _ _ (e0.keeps CtlP.keeps (Same.ext xw)) (e0'.keeps CtlP.keeps (Same.ext xw))).mono ?_
 rintro e y0 ⟨rfl,hb0⟩
 have q0:=hb0.keep (p:=⟨w.heap.size,0,none⟩) (v:=v0) (by simp [go_sem])
 have r0:=hb0.keep (p:=⟨w.heap.size+1,0,none⟩) (v:=v0') (by simp [go_sem])
 have q1:=hb0.keep (p:=⟨w.heap.size,1,none⟩) (v:=s0) (by simp [go_sem])
 have r1:=hb0.keep (p:=⟨w.heap.size+1,1,none⟩) (v:=s0') (by simp [go_sem])
 have q2:=hb0.keep (p:=⟨w.heap.size,2,none⟩) (v:=s1) (by simp [go_sem])
 have r2:=hb0.keep (p:=⟨w.heap.size+1,2,none⟩) (v:=s1') (by simp [go_sem])
 have q3:=hb0.keep (p:=⟨w.heap.size,3,none⟩) (v:=s2) (by simp [go_sem])
 have r3:=hb0.keep (p:=⟨w.heap.size+1,3,none⟩) (v:=s2') (by simp [go_sem])
 have q4:=hb0.keep (p:=⟨w.heap.size,4,none⟩) (v:=s3) (by simp [go_sem])
 have r4:=hb0.keep (p:=⟨w.heap.size+1,4,none⟩) (v:=s3') (by simp [go_sem])
 have q5:=hb0.keep (p:=⟨w.heap.size,5,none⟩) (v:=s4) (by simp [go_sem])
 have r5:=hb0.keep (p:=⟨w.heap.size+1,5,none⟩) (v:=s4') (by simp [go_sem])
 have q6:=hb0.keep (p:=⟨w.heap.size,6,none⟩) (v:=v6) (by simp [go_sem])
 have r6:=hb0.keep (p:=⟨w.heap.size+1,6,none⟩) (v:=v6') (by simp [go_sem])
 have q7:=hb0.keep (p:=⟨w.heap.size,7,none⟩) (v:=v7) (by simp [go_sem])
 have r7:=hb0.keep (p:=⟨w.heap.size+1,7,none⟩) (v:=v7') (by simp [go_sem])
 have q8:=hb0.keep (p:=⟨w.heap.size,8,none⟩) (v:=.int .i64 x.agent.roots) (by simp [go_sem])
 have r8:=hb0.keep (p:=⟨w.heap.size+1,8,none⟩) (v:=.int .i64 x.agent.roots) (by simp [go_sem])
 have q9:=hb0.keep (p:=⟨w.heap.size,9,none⟩) (v:=x1) (by simp [go_sem])
 have r9:=hb0.keep (p:=⟨w.heap.size+1,9,none⟩) (v:=x1') (by simp [go_sem])
 have q10:=hb0.keep (p:=⟨w.heap.size,10,none⟩) (v:=x2) (by simp [go_sem])
 have r10:=hb0.keep (p:=⟨w.heap.size+1,10,none⟩) (v:=x2') (by simp [go_sem])
 have q11:=hb0.keep (p:=⟨w.heap.size,11,none⟩) (v:=.int .i64 x.agent.edges) (by simp [go_sem])
 have r11:=hb0.keep (p:=⟨w.heap.size+1,11,none⟩) (v:=.int .i64 x.agent.edges) (by simp [go_sem])
 have q12:=hb0.keep (p:=⟨w.heap.size,12,none⟩) (v:=x4) (by simp [go_sem])
 have r12:=hb0.keep (p:=⟨w.heap.size+1,12,none⟩) (v:=x4') (by simp [go_sem])
 have q13:=hb0.keep (p:=⟨w.heap.size,13,none⟩) (v:=x5) (by simp [go_sem])
 have r13:=hb0.keep (p:=⟨w.heap.size+1,13,none⟩) (v:=x5') (by simp [go_sem])
 have q14:=hb0.keep (p:=⟨w.heap.size,14,none⟩) (v:=.int .i64 x.count) (by simp [go_sem])
 have r14:=hb0.keep (p:=⟨w.heap.size+1,14,none⟩) (v:=.int .i64 x.count) (by simp [go_sem])
 go_wp2_with fail
 refine (c_laws_eqSorting l1 u1 l2 u2 _ _ _ _ (SrtP.keeps _ _ _ _ _ _ (Same.ext xw) E1) (SrtP.keeps _ _ _ _ _ _ (Same.ext xw) E1')).mono ?_
 rintro e y1 ⟨rfl,hb1⟩
 replace q0:=hb1.keep q0
 replace r0:=hb1.keep r0
 replace q1:=hb1.keep q1
 replace r1:=hb1.keep r1
 replace q2:=hb1.keep q2
 replace r2:=hb1.keep r2
 replace q3:=hb1.keep q3
 replace r3:=hb1.keep r3
 replace q4:=hb1.keep q4
 replace r4:=hb1.keep r4
 replace q5:=hb1.keep q5
 replace r5:=hb1.keep r5
 replace q6:=hb1.keep q6
 replace r6:=hb1.keep r6
 replace q7:=hb1.keep q7
 replace r7:=hb1.keep r7
 replace q8:=hb1.keep q8
 replace r8:=hb1.keep r8
 replace q9:=hb1.keep q9
 replace r9:=hb1.keep r9
 replace q10:=hb1.keep q10
 replace r10:=hb1.keep r10
 replace q11:=hb1.keep q11
 replace r11:=hb1.keep r11
 replace q12:=hb1.keep q12
 replace r12:=hb1.keep r12
 replace q13:=hb1.keep q13
 replace r13:=hb1.keep r13
 replace q14:=hb1.keep q14
 replace r14:=hb1.keep r14
 go_wp2_with fail
 refine (c_laws_eqRuleS l1 u1 l2 u2 _ _ _ _ (e6.keeps RulP.keeps (Same.ext xw)) (e6'.keeps RulP.keeps (Same.ext xw))).mono ?_
 rintro e y2 ⟨rfl,hb2⟩
 replace q0:=hb2.keep q0
 replace r0:=hb2.keep r0
 replace q1:=hb2.keep q1
 replace r1:=hb2.keep r1
 replace q2:=hb2.keep q2
 replace r2:=hb2.keep r2
 replace q3:=hb2.keep q3
 replace r3:=hb2.keep r3
 replace q4:=hb2.keep q4
 replace r4:=hb2.keep r4
 replace q5:=hb2.keep q5
 replace r5:=hb2.keep r5
 replace q6:=hb2.keep q6
 replace r6:=hb2.keep r6
 replace q7:=hb2.keep q7
 replace r7:=hb2.keep r7
 replace q8:=hb2.keep q8
 replace r8:=hb2.keep r8
 replace q9:=hb2.keep q9
 replace r9:=hb2.keep r9
 replace q10:=hb2.keep q10
 replace r10:=hb2.keep r10
 replace q11:=hb2.keep q11
 replace r11:=hb2.keep r11
 replace q12:=hb2.keep q12
 replace r12:=hb2.keep r12
 replace q13:=hb2.keep q13
 replace r13:=hb2.keep r13
 replace q14:=hb2.keep q14
 replace r14:=hb2.keep r14
 go_wp2_with fail
 refine (c_laws_eqStringS l1 u1 l2 u2 _ _ _ _ (e7.keeps StrP.keeps (Same.ext xw)) (e7'.keeps StrP.keeps (Same.ext xw))).mono ?_
 rintro e y3 ⟨rfl,hb3⟩
 replace q0:=hb3.keep q0
 replace r0:=hb3.keep r0
 replace q1:=hb3.keep q1
 replace r1:=hb3.keep r1
 replace q2:=hb3.keep q2
 replace r2:=hb3.keep r2
 replace q3:=hb3.keep q3
 replace r3:=hb3.keep r3
 replace q4:=hb3.keep q4
 replace r4:=hb3.keep r4
 replace q5:=hb3.keep q5
 replace r5:=hb3.keep r5
 replace q6:=hb3.keep q6
 replace r6:=hb3.keep r6
 replace q7:=hb3.keep q7
 replace r7:=hb3.keep r7
 replace q8:=hb3.keep q8
 replace r8:=hb3.keep r8
 replace q9:=hb3.keep q9
 replace r9:=hb3.keep r9
 replace q10:=hb3.keep q10
 replace r10:=hb3.keep r10
 replace q11:=hb3.keep q11
 replace r11:=hb3.keep r11
 replace q12:=hb3.keep q12
 replace r12:=hb3.keep r12
 replace q13:=hb3.keep q13
 replace r13:=hb3.keep r13
 replace q14:=hb3.keep q14
 replace r14:=hb3.keep r14
 go_wp2_with fail
 refine (c_laws_eqBigraph l1 u1 l2 u2 _ _ _ _ (BigP.keeps _ _ _ _ _ _ (Same.ext xw) E8) (BigP.keeps _ _ _ _ _ _ (Same.ext xw) E8')).mono ?_
 rintro e y4 ⟨rfl,hb4⟩
 replace q0:=hb4.keep q0
 replace r0:=hb4.keep r0
 replace q1:=hb4.keep q1
 replace r1:=hb4.keep r1
 replace q2:=hb4.keep q2
 replace r2:=hb4.keep r2
 replace q3:=hb4.keep q3
 replace r3:=hb4.keep r3
 replace q4:=hb4.keep q4
 replace r4:=hb4.keep r4
 replace q5:=hb4.keep q5
 replace r5:=hb4.keep r5
 replace q6:=hb4.keep q6
 replace r6:=hb4.keep r6
 replace q7:=hb4.keep q7
 replace r7:=hb4.keep r7
 replace q8:=hb4.keep q8
 replace r8:=hb4.keep r8
 replace q9:=hb4.keep q9
 replace r9:=hb4.keep r9
 replace q10:=hb4.keep q10
 replace r10:=hb4.keep r10
 replace q11:=hb4.keep q11
 replace r11:=hb4.keep r11
 replace q12:=hb4.keep q12
 replace r12:=hb4.keep r12
 replace q13:=hb4.keep q13
 replace r13:=hb4.keep r13
 replace q14:=hb4.keep q14
 replace r14:=hb4.keep r14
 go_wp2_with fail
 go_ret
 exact ⟨rfl,xw⟩
end Go.Proofs.YtccjepndhlobpaaGreatDoor
