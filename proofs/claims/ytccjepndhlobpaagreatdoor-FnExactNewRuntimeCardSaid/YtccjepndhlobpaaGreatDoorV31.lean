/-
  Walks: a bigraph in memory of its own.
-/
import Derived.Test.YtccjepndhlobpaaGreatDoorV30
import Derived.Test.YtccjepndhlobpaaGreatDoorC1
import Derived.Deep.DeepMust
namespace Go.Proofs.YtccjepndhlobpaaGreatDoor
open Go.RowKit
set_option linter.unusedVariables false
set_option linter.unusedSimpArgs false

set_option maxRecDepth 100000 in
set_option maxHeartbeats 3200000 in
theorem c_impl_ownBigraph (lo hi:Nat) (cs:List Value) (b:Big) (w:World) (h:BigP lo hi w cs b) (hwt:wtBig b≤1048576) :
 Calls Tryz.prog 135 #[.agg cs.toArray] w fun e w'=>∃ds,e=.returned (.agg ds.toArray)∧BigO w.heap.size w'.heap.size w' ds b∧Ext w w':=by
 have hw:wtBig b=wtL wtNd b.nodes+b.sites.length+wtL wtStr b.outer+wtL wtWr b.inner:=rfl
 have hw4:b.outer.length≤wtL wtStr b.outer:=by unfold wtL;omega
 have hw5:b.inner.length≤wtL wtWr b.inner:=by unfold wtL;omega
 have hw1:b.nodes.length≤wtL wtNd b.nodes:=by unfold wtL;omega
 obtain ⟨v1,v2,v4,v5,rfl,r1,r2,⟨a1,k1,rfl,g1,g2,g3,g4⟩,hSi,hO,hI⟩:=h
 unfold maxLen at g2
 obtain ⟨i0,hi0,h1⟩:=Option.map_eq_some_iff.1 infoNd
 simp only [Prod.mk.injEq] at h1
 obtain ⟨hz0,hz1,hz2⟩:=h1
 obtain ⟨W0,hW0,hbx,hx0,hz⟩:=box_facts w [.int .i64 b.roots,.slice a1 b.nodes.length k1,v2,.int .i64 b.edges,v4,v5] 44
 obtain ⟨W1,hW1,hby,hy0,hy⟩:=box_facts W0 [.int .i64 0,.slice none 0 0,.slice none 0 0,.int .i64 0,.slice none 0 0,.slice none 0 0] 44
 have p0:=hy0.keep (hbx 0 _ rfl).1
 have p1:=hy0.keep (hbx 1 _ rfl).1
 have p2:=hy0.keep (hbx 2 _ rfl).1
 have p3:=hy0.keep (hbx 3 _ rfl).1
 have p4:=hy0.keep (hbx 4 _ rfl).1
 have p5:=hy0.keep (hbx 5 _ rfl).1
 have hx1:Ext w W1:=hx0.trans hy0
 have hz1':W1.heap.size=w.heap.size+1+1:=by omega
 rw [hz] at hby
 go_enter Tryz.func135,Tryz.ntmps135
 go_wp2_with fail
 (try rw [hW1])
 have hzw:w.heap.size+1<W1.heap.size:=by omega
 clear hz hy hz1' hW0 hW1
 obtain ⟨R,hR⟩:∃R:List Value→World→Prop,R=(fun l w'=>∃(B lw2 up2 lw4 up4 lw5 up5:Nat) (a2 a4 a5:Option Addr) (k2 k4 k5:Nat),l = [l.getD 0 undef,.pointer (some ⟨w.heap.size,0,none⟩),.pointer (some ⟨(w.heap.size+1),0,none⟩),.pointer (some ⟨B,0,none⟩),l.getD 4 undef,l.getD 5 undef,l.getD 6 undef,l.getD 7 undef,l.getD 8 undef,l.getD 9 undef,l.getD 10 undef,l.getD 11 undef,l.getD 12 undef,l.getD 13 undef,l.getD 14 undef,l.getD 15 undef,l.getD 16 undef,l.getD 17 undef,l.getD 18 undef,l.getD 19 undef,l.getD 20 undef,l.getD 21 undef,l.getD 22 undef,l.getD 23 undef,l.getD 24 undef,l.getD 25 undef,l.getD 26 undef,l.getD 27 undef,l.getD 28 undef,l.getD 29 undef,l.getD 30 undef,l.getD 31 undef,l.getD 32 undef,l.getD 33 undef,l.getD 34 undef,l.getD 35 undef,l.getD 36 undef,l.getD 37 undef,l.getD 38 undef,l.getD 39 undef,l.getD 40 undef,l.getD 41 undef]∧Ext W1 w'∧BoxAt w' B [.int .i64 b.roots,.slice none 0 0,.slice a2 b.sites.length k2,.int .i64 b.edges,.slice a4 b.outer.length k4,.slice a5 b.inner.length k5]∧IntsO lw2 up2 w' (.slice a2 b.sites.length k2) b.sites∧StrsO lw4 up4 w' (.slice a4 b.outer.length k4) b.outer∧WrsO lw5 up5 w' (.slice a5 b.inner.length k5) b.inner ∧
  (W1.heap.size≤B∧B<w'.heap.size∧W1.heap.size≤lw2∧up2≤lw4∧up4≤lw5∧up5≤w'.heap.size∧lw2≤up2∧lw4≤up4∧lw5≤up5∧(B<lw2∨up2≤B)∧(B<lw4∨up4≤B)∧(B<lw5∨up5≤B))):=⟨_,rfl⟩
 have HR:=Lib.hid hR
 clear hR
 refine region_cut R ?_ ?_
 ·skip
  refine region_till 15 (S:=(fun w'=>Ext W1 w')) (by kernel_rfl) ?_ (fun hHeld=>?_)
  ·exact (Ext.refl W1).drew
  refine ttP 15 0 ?_ ?_ ?_;rotate_left;focus (intro w;go_simp;try with_reducible rfl)
  try simp only [Act.put,aput]
  refine ttY 15 1 ?_ ?_ ?_;rotate_left;focus (intro w hSw;(try dsimp only at hSw);have sp0:=Ext.keep hSw p0;have sp1:=Ext.keep hSw p1;have sp2:=Ext.keep hSw p2;have sp3:=Ext.keep hSw p3;have sp4:=Ext.keep hSw p4;have sp5:=Ext.keep hSw p5;go_simp;try with_reducible rfl)
  try simp only [Act.put,aput]
  refine ttP 15 2 ?_ ?_ ?_;rotate_left;focus (intro w;go_simp;try with_reducible rfl)
  try simp only [Act.put,aput]
  refine ttY 15 3 ?_ ?_ ?_;rotate_left;focus (intro w hSw;(try dsimp only at hSw);have sp0:=Ext.keep hSw p0;have sp1:=Ext.keep hSw p1;have sp2:=Ext.keep hSw p2;have sp3:=Ext.keep hSw p3;have sp4:=Ext.keep hSw p4;have sp5:=Ext.keep hSw p5;go_simp;try with_reducible rfl)
  try simp only [Act.put,aput]
  refine ttP 15 5 ?_ ?_ ?_;rotate_left;focus (intro w;go_simp;try with_reducible rfl)
  try simp only [Act.put,aput]
  refine ttY 15 6 ?_ ?_ ?_;rotate_left;focus (intro w hSw;(try dsimp only at hSw);have sp0:=Ext.keep hSw p0;have sp1:=Ext.keep hSw p1;have sp2:=Ext.keep hSw p2;have sp3:=Ext.keep hSw p3;have sp4:=Ext.keep hSw p4;have sp5:=Ext.keep hSw p5;go_simp;try with_reducible rfl)
  try simp only [Act.put,aput]
  refine ttP 15 7 ?_ ?_ ?_;rotate_left;focus (intro w;go_simp;try with_reducible rfl)
  try simp only [Act.put,aput]
  refine ttY 15 8 ?_ ?_ ?_;rotate_left;focus (intro w hSw;(try dsimp only at hSw);have sp0:=Ext.keep hSw p0;have sp1:=Ext.keep hSw p1;have sp2:=Ext.keep hSw p2;have sp3:=Ext.keep hSw p3;have sp4:=Ext.keep hSw p4;have sp5:=Ext.keep hSw p5;go_simp;try with_reducible rfl)
  try simp only [Act.put,aput]
  refine ttP 15 10 ?_ ?_ ?_;rotate_left;focus (intro w;go_simp;try with_reducible rfl)
  try simp only [Act.put,aput]
  refine ttY 15 11 ?_ ?_ ?_;rotate_left;focus (intro w hSw;(try dsimp only at hSw);have sp0:=Ext.keep hSw p0;have sp1:=Ext.keep hSw p1;have sp2:=Ext.keep hSw p2;have sp3:=Ext.keep hSw p3;have sp4:=Ext.keep hSw p4;have sp5:=Ext.keep hSw p5;go_simp;try with_reducible rfl)
  try simp only [Act.put,aput]
  refine anyTill_ready (rs:=[4,14]) (by kernel_rfl) (by simp) ?_
  refine AllReadyT.cons rfl (by decide) (fun K hK=>?_) (AllReadyT.cons rfl (by decide) (fun K hK=>?_) (AllReadyT.nil))
  focus
   (try simp only [aput])
   go_simp
   (go_at_call 136;refine (c_slices_Clone_int_int lo hi _ b.sites _ ((hSi.ext IntP.keeps hx1).ext IntP.keeps hHeld) (by omega)).mono ?_;rintro e y2 ⟨c2,rfl,hC2,hb2⟩;have hz2:=Below.size hb2;obtain ⟨lw2,up2,m2,n2,o2,hC2⟩:=hC2.bnd hz2;(try simp only [World.size_drew] at hz2 m2);obtain ⟨a2,k2,rfl,_⟩:=id hC2;(first|replace hC4:=hC4.ext StrP.keepsO hb2|replace hC4:=hC4.ext StrP.keepsO (hHeld.trans hb2)|skip);(first|replace hC5:=hC5.ext WrP.keepsO hb2|replace hC5:=hC5.ext WrP.keepsO (hHeld.trans hb2)|skip);(first|replace hBB:=hBB.ext hb2|replace hBB:=hBB.ext (hHeld.trans hb2)|skip))
   show K _ _
   refine hK.out _ _ (by exact hHeld.trans hb2) (fun hHeld=>?_)
   clear hK K
   try simp only [Act.put,aput]
   refine anyTill_ready (rs:=[9,14]) (by kernel_rfl) (by simp) ?_
   refine AllReadyT.cons rfl (by decide) (fun K hK=>?_) (AllReadyT.cons rfl (by decide) (fun K hK=>?_) (AllReadyT.nil))
   focus
    (try simp only [aput])
    go_simp
    (go_at_call 134;refine (c_slices_Clone_string_string lo hi _ b.outer _ ((hO.ext StrP.keeps hx1).ext StrP.keeps hHeld) (by omega)).mono ?_;rintro e y4 ⟨c4,rfl,hC4,hb4⟩;have hz4:=Below.size hb4;obtain ⟨lw4,up4,m4,n4,o4,hC4⟩:=hC4.bnd hz4;(try simp only [World.size_drew] at hz4 m4);obtain ⟨a4,k4,rfl,_⟩:=id hC4;(first|replace hC2:=hC2.ext IntP.keepsO hb4|replace hC2:=hC2.ext IntP.keepsO (hHeld.trans hb4)|skip);(first|replace hC5:=hC5.ext WrP.keepsO hb4|replace hC5:=hC5.ext WrP.keepsO (hHeld.trans hb4)|skip);(first|replace hBB:=hBB.ext hb4|replace hBB:=hBB.ext (hHeld.trans hb4)|skip))
    show K _ _
    refine hK.out _ _ (by exact hHeld.trans hb4) (fun hHeld=>?_)
    clear hK K
    try simp only [Act.put,aput]
    refine anyTill_ready (rs:=[12,14]) (by kernel_rfl) (by simp) ?_
    refine AllReadyT.cons rfl (by decide) (fun K hK=>?_) (AllReadyT.cons rfl (by decide) (fun K hK=>?_) (AllReadyT.nil))
    focus
     (try simp only [aput])
     go_simp
     (go_at_call 196;refine (c_slices_Clone_impl_Wire_impl_Wire lo hi _ b.inner _ ((hI.ext WrP.keeps hx1).ext WrP.keeps hHeld) (by omega)).mono ?_;rintro e y5 ⟨c5,rfl,hC5,hb5⟩;have hz5:=Below.size hb5;obtain ⟨lw5,up5,m5,n5,o5,hC5⟩:=hC5.bnd hz5;(try simp only [World.size_drew] at hz5 m5);obtain ⟨a5,k5,rfl,_⟩:=id hC5;(first|replace hC2:=hC2.ext IntP.keepsO hb5|replace hC2:=hC2.ext IntP.keepsO (hHeld.trans hb5)|skip);(first|replace hC4:=hC4.ext StrP.keepsO hb5|replace hC4:=hC4.ext StrP.keepsO (hHeld.trans hb5)|skip);(first|replace hBB:=hBB.ext hb5|replace hBB:=hBB.ext (hHeld.trans hb5)|skip))
     show K _ _
     refine hK.out _ _ (by exact hHeld.trans hb5) (fun hHeld=>?_)
     clear hK K
     try simp only [Act.put,aput]
     refine ttP 15 13 ?_ ?_ ?_;rotate_left;focus (intro w;go_simp;try with_reducible rfl)
     try simp only [Act.put,aput]
     refine anyTill_ready (rs:=[14]) (by kernel_rfl) (by simp) ?_
     refine AllReadyT.cons rfl (by decide) (fun K hK=>?_) AllReadyT.nil
     (try simp only [aput])
     go_simp
     (first|refine alloc_box (cs:=[.int .i64 0,.slice none 0 0,.slice none 0 0,.int .i64 0,.slice none 0 0,.slice none 0 0]) ?_|refine alloc_box_drew (cs:=[.int .i64 0,.slice none 0 0,.slice none 0 0,.int .i64 0,.slice none 0 0,.slice none 0 0]) ?_);(intro wB hbB hzB hBB;(try simp only [World.size_drew] at hzB hBB);(first|replace hC2:=hC2.ext IntP.keepsO hbB|replace hC2:=hC2.ext IntP.keepsO (hHeld.trans hbB)|skip);(first|replace hC4:=hC4.ext StrP.keepsO hbB|replace hC4:=hC4.ext StrP.keepsO (hHeld.trans hbB)|skip);(first|replace hC5:=hC5.ext WrP.keepsO hbB|replace hC5:=hC5.ext WrP.keepsO (hHeld.trans hbB)|skip))
     show K _ _
     refine hK.out _ _ (by first|exact hHeld.trans hbB|exact hbB) (fun hHeld=>?_)
     clear hK K
     try simp only [Act.put,aput]
     refine anyTill_tail 15 [] (by kernel_rfl) (by decide) (by decide) ?_
     simp only [picked,List.filterMap_cons,List.filterMap_nil,List.getElem?_toArray,List.getElem?_cons_succ,List.getElem?_cons_zero]
     show wpList _ _ _ [_] _ _
    rotate_left 1
    focus
     (try simp only [aput])
     go_simp
     (first|refine alloc_box (cs:=[.int .i64 0,.slice none 0 0,.slice none 0 0,.int .i64 0,.slice none 0 0,.slice none 0 0]) ?_|refine alloc_box_drew (cs:=[.int .i64 0,.slice none 0 0,.slice none 0 0,.int .i64 0,.slice none 0 0,.slice none 0 0]) ?_);(intro wB hbB hzB hBB;(try simp only [World.size_drew] at hzB hBB);(first|replace hC2:=hC2.ext IntP.keepsO hbB|replace hC2:=hC2.ext IntP.keepsO (hHeld.trans hbB)|skip);(first|replace hC4:=hC4.ext StrP.keepsO hbB|replace hC4:=hC4.ext StrP.keepsO (hHeld.trans hbB)|skip);(first|replace hC5:=hC5.ext WrP.keepsO hbB|replace hC5:=hC5.ext WrP.keepsO (hHeld.trans hbB)|skip))
     show K _ _
     refine hK.out _ _ (by first|exact hHeld.trans hbB|exact hbB) (fun hHeld=>?_)
     clear hK K
     try simp only [Act.put,aput]
     refine anyTill_ready (rs:=[12]) (by kernel_rfl) (by simp) ?_
     refine AllReadyT.cons rfl (by decide) (fun K hK=>?_) AllReadyT.nil
     (try simp only [aput])
     go_simp
     (go_at_call 196;refine (c_slices_Clone_impl_Wire_impl_Wire lo hi _ b.inner _ ((hI.ext WrP.keeps hx1).ext WrP.keeps hHeld) (by omega)).mono ?_;rintro e y5 ⟨c5,rfl,hC5,hb5⟩;have hz5:=Below.size hb5;obtain ⟨lw5,up5,m5,n5,o5,hC5⟩:=hC5.bnd hz5;(try simp only [World.size_drew] at hz5 m5);obtain ⟨a5,k5,rfl,_⟩:=id hC5;(first|replace hC2:=hC2.ext IntP.keepsO hb5|replace hC2:=hC2.ext IntP.keepsO (hHeld.trans hb5)|skip);(first|replace hC4:=hC4.ext StrP.keepsO hb5|replace hC4:=hC4.ext StrP.keepsO (hHeld.trans hb5)|skip);(first|replace hBB:=hBB.ext hb5|replace hBB:=hBB.ext (hHeld.trans hb5)|skip))
     show K _ _
     refine hK.out _ _ (by exact hHeld.trans hb5) (fun hHeld=>?_)
     clear hK K
     try simp only [Act.put,aput]
     refine ttP 15 13 ?_ ?_ ?_;rotate_left;focus (intro w;go_simp;try with_reducible rfl)
     try simp only [Act.put,aput]
     refine anyTill_tail 15 [] (by kernel_rfl) (by decide) (by decide) ?_
     simp only [picked,List.filterMap_cons,List.filterMap_nil,List.getElem?_toArray,List.getElem?_cons_succ,List.getElem?_cons_zero]
     show wpList _ _ _ [_] _ _
    rotate_left 1
   rotate_left 2
   focus
    (try simp only [aput])
    go_simp
    (first|refine alloc_box (cs:=[.int .i64 0,.slice none 0 0,.slice none 0 0,.int .i64 0,.slice none 0 0,.slice none 0 0]) ?_|refine alloc_box_drew (cs:=[.int .i64 0,.slice none 0 0,.slice none 0 0,.int .i64 0,.slice none 0 0,.slice none 0 0]) ?_);(intro wB hbB hzB hBB;(try simp only [World.size_drew] at hzB hBB);(first|replace hC2:=hC2.ext IntP.keepsO hbB|replace hC2:=hC2.ext IntP.keepsO (hHeld.trans hbB)|skip);(first|replace hC4:=hC4.ext StrP.keepsO hbB|replace hC4:=hC4.ext StrP.keepsO (hHeld.trans hbB)|skip);(first|replace hC5:=hC5.ext WrP.keepsO hbB|replace hC5:=hC5.ext WrP.keepsO (hHeld.trans hbB)|skip))
    show K _ _
    refine hK.out _ _ (by first|exact hHeld.trans hbB|exact hbB) (fun hHeld=>?_)
    clear hK K
    try simp only [Act.put,aput]
    refine anyTill_ready (rs:=[9]) (by kernel_rfl) (by simp) ?_
    refine AllReadyT.cons rfl (by decide) (fun K hK=>?_) AllReadyT.nil
    (try simp only [aput])
    go_simp
    (go_at_call 134;refine (c_slices_Clone_string_string lo hi _ b.outer _ ((hO.ext StrP.keeps hx1).ext StrP.keeps hHeld) (by omega)).mono ?_;rintro e y4 ⟨c4,rfl,hC4,hb4⟩;have hz4:=Below.size hb4;obtain ⟨lw4,up4,m4,n4,o4,hC4⟩:=hC4.bnd hz4;(try simp only [World.size_drew] at hz4 m4);obtain ⟨a4,k4,rfl,_⟩:=id hC4;(first|replace hC2:=hC2.ext IntP.keepsO hb4|replace hC2:=hC2.ext IntP.keepsO (hHeld.trans hb4)|skip);(first|replace hC5:=hC5.ext WrP.keepsO hb4|replace hC5:=hC5.ext WrP.keepsO (hHeld.trans hb4)|skip);(first|replace hBB:=hBB.ext hb4|replace hBB:=hBB.ext (hHeld.trans hb4)|skip))
    show K _ _
    refine hK.out _ _ (by exact hHeld.trans hb4) (fun hHeld=>?_)
    clear hK K
    try simp only [Act.put,aput]
    refine anyTill_ready (rs:=[12]) (by kernel_rfl) (by simp) ?_
    refine AllReadyT.cons rfl (by decide) (fun K hK=>?_) AllReadyT.nil
    (try simp only [aput])
    go_simp
    (go_at_call 196;refine (c_slices_Clone_impl_Wire_impl_Wire lo hi _ b.inner _ ((hI.ext WrP.keeps hx1).ext WrP.keeps hHeld) (by omega)).mono ?_;rintro e y5 ⟨c5,rfl,hC5,hb5⟩;have hz5:=Below.size hb5;obtain ⟨lw5,up5,m5,n5,o5,hC5⟩:=hC5.bnd hz5;(try simp only [World.size_drew] at hz5 m5);obtain ⟨a5,k5,rfl,_⟩:=id hC5;(first|replace hC2:=hC2.ext IntP.keepsO hb5|replace hC2:=hC2.ext IntP.keepsO (hHeld.trans hb5)|skip);(first|replace hC4:=hC4.ext StrP.keepsO hb5|replace hC4:=hC4.ext StrP.keepsO (hHeld.trans hb5)|skip);(first|replace hBB:=hBB.ext hb5|replace hBB:=hBB.ext (hHeld.trans hb5)|skip))
    show K _ _
    refine hK.out _ _ (by exact hHeld.trans hb5) (fun hHeld=>?_)
    clear hK K
    try simp only [Act.put,aput]
    refine ttP 15 13 ?_ ?_ ?_;rotate_left;focus (intro w;go_simp;try with_reducible rfl)
    try simp only [Act.put,aput]
    refine anyTill_tail 15 [] (by kernel_rfl) (by decide) (by decide) ?_
    simp only [picked,List.filterMap_cons,List.filterMap_nil,List.getElem?_toArray,List.getElem?_cons_succ,List.getElem?_cons_zero]
    show wpList _ _ _ [_] _ _
   rotate_left 1
  rotate_left 3
  focus
   (try simp only [aput])
   go_simp
   (first|refine alloc_box (cs:=[.int .i64 0,.slice none 0 0,.slice none 0 0,.int .i64 0,.slice none 0 0,.slice none 0 0]) ?_|refine alloc_box_drew (cs:=[.int .i64 0,.slice none 0 0,.slice none 0 0,.int .i64 0,.slice none 0 0,.slice none 0 0]) ?_);(intro wB hbB hzB hBB;(try simp only [World.size_drew] at hzB hBB);(first|replace hC2:=hC2.ext IntP.keepsO hbB|replace hC2:=hC2.ext IntP.keepsO (hHeld.trans hbB)|skip);(first|replace hC4:=hC4.ext StrP.keepsO hbB|replace hC4:=hC4.ext StrP.keepsO (hHeld.trans hbB)|skip);(first|replace hC5:=hC5.ext WrP.keepsO hbB|replace hC5:=hC5.ext WrP.keepsO (hHeld.trans hbB)|skip))
   show K _ _
   refine hK.out _ _ (by first|exact hHeld.trans hbB|exact hbB) (fun hHeld=>?_)
   clear hK K
   try simp only [Act.put,aput]
   refine anyTill_ready (rs:=[4]) (by kernel_rfl) (by simp) ?_
   refine AllReadyT.cons rfl (by decide) (fun K hK=>?_) AllReadyT.nil
   (try simp only [aput])
   go_simp
   (go_at_call 136;refine (c_slices_Clone_int_int lo hi _ b.sites _ ((hSi.ext IntP.keeps hx1).ext IntP.keeps hHeld) (by omega)).mono ?_;rintro e y2 ⟨c2,rfl,hC2,hb2⟩;have hz2:=Below.size hb2;obtain ⟨lw2,up2,m2,n2,o2,hC2⟩:=hC2.bnd hz2;(try simp only [World.size_drew] at hz2 m2);obtain ⟨a2,k2,rfl,_⟩:=id hC2;(first|replace hC4:=hC4.ext StrP.keepsO hb2|replace hC4:=hC4.ext StrP.keepsO (hHeld.trans hb2)|skip);(first|replace hC5:=hC5.ext WrP.keepsO hb2|replace hC5:=hC5.ext WrP.keepsO (hHeld.trans hb2)|skip);(first|replace hBB:=hBB.ext hb2|replace hBB:=hBB.ext (hHeld.trans hb2)|skip))
   show K _ _
   refine hK.out _ _ (by exact hHeld.trans hb2) (fun hHeld=>?_)
   clear hK K
   try simp only [Act.put,aput]
   refine anyTill_ready (rs:=[9]) (by kernel_rfl) (by simp) ?_
   refine AllReadyT.cons rfl (by decide) (fun K hK=>?_) AllReadyT.nil
   (try simp only [aput])
   go_simp
   (go_at_call 134;refine (c_slices_Clone_string_string lo hi _ b.outer _ ((hO.ext StrP.keeps hx1).ext StrP.keeps hHeld) (by omega)).mono ?_;rintro e y4 ⟨c4,rfl,hC4,hb4⟩;have hz4:=Below.size hb4;obtain ⟨lw4,up4,m4,n4,o4,hC4⟩:=hC4.bnd hz4;(try simp only [World.size_drew] at hz4 m4);obtain ⟨a4,k4,rfl,_⟩:=id hC4;(first|replace hC2:=hC2.ext IntP.keepsO hb4|replace hC2:=hC2.ext IntP.keepsO (hHeld.trans hb4)|skip);(first|replace hC5:=hC5.ext WrP.keepsO hb4|replace hC5:=hC5.ext WrP.keepsO (hHeld.trans hb4)|skip);(first|replace hBB:=hBB.ext hb4|replace hBB:=hBB.ext (hHeld.trans hb4)|skip))
   show K _ _
   refine hK.out _ _ (by exact hHeld.trans hb4) (fun hHeld=>?_)
   clear hK K
   try simp only [Act.put,aput]
   refine anyTill_ready (rs:=[12]) (by kernel_rfl) (by simp) ?_
   refine AllReadyT.cons rfl (by decide) (fun K hK=>?_) AllReadyT.nil
   (try simp only [aput])
   go_simp
   (go_at_call 196;refine (c_slices_Clone_impl_Wire_impl_Wire lo hi _ b.inner _ ((hI.ext WrP.keeps hx1).ext WrP.keeps hHeld) (by omega)).mono ?_;rintro e y5 ⟨c5,rfl,hC5,hb5⟩;have hz5:=Below.size hb5;obtain ⟨lw5,up5,m5,n5,o5,hC5⟩:=hC5.bnd hz5;(try simp only [World.size_drew] at hz5 m5);obtain ⟨a5,k5,rfl,_⟩:=id hC5;(first|replace hC2:=hC2.ext IntP.keepsO hb5|replace hC2:=hC2.ext IntP.keepsO (hHeld.trans hb5)|skip);(first|replace hC4:=hC4.ext StrP.keepsO hb5|replace hC4:=hC4.ext StrP.keepsO (hHeld.trans hb5)|skip);(first|replace hBB:=hBB.ext hb5|replace hBB:=hBB.ext (hHeld.trans hb5)|skip))
   show K _ _
   refine hK.out _ _ (by exact hHeld.trans hb5) (fun hHeld=>?_)
   clear hK K
   try simp only [Act.put,aput]
   refine ttP 15 13 ?_ ?_ ?_;rotate_left;focus (intro w;go_simp;try with_reducible rfl)
   try simp only [Act.put,aput]
   refine anyTill_tail 15 [] (by kernel_rfl) (by decide) (by decide) ?_
   simp only [picked,List.filterMap_cons,List.filterMap_nil,List.getElem?_toArray,List.getElem?_cons_succ,List.getElem?_cons_zero]
   show wpList _ _ _ [_] _ _
  rotate_left 1
  all_goals have hsz:=Below.size hHeld
  all_goals (obtain ⟨o0,of0⟩:=hBB 0 _ rfl;obtain ⟨o1,of1⟩:=hBB 1 _ rfl;obtain ⟨o2,of2⟩:=hBB 2 _ rfl;obtain ⟨o3,of3⟩:=hBB 3 _ rfl;obtain ⟨o4,of4⟩:=hBB 4 _ rfl;obtain ⟨o5,of5⟩:=hBB 5 _ rfl)
  all_goals go_wp2_with fail
  all_goals
   refine ⟨_,rfl,?_⟩
   rw [HR.out]
   refine ⟨_,lw2,up2,lw4,up4,lw5,up5,a2,a4,a5,k2,k4,k5,rfl,?_,?_,?_,?_,?_,?_⟩
   ·repeat refine Xs ?_
    exact hHeld
   ·exact ((((((hBB.set 0 _).set 1 _).set 2 _).set 3 _).set 4 _).set 5 _)
   ·(repeat refine SlO.set IntP.keepsO ?_ (by omega))
    exact hC2
   ·(repeat refine SlO.set StrP.keepsO ?_ (by omega))
    exact hC4
   ·(repeat refine SlO.set WrP.keepsO ?_ (by omega))
    exact hC5
   ·(try simp only [World.size_setCell])
    refine ⟨?_,?_,?_,?_,?_,?_,?_,?_,?_,?_,?_,?_⟩ <;> omega
 ·rintro l W2 hl
  rw [HR.out] at hl
  clear HR
  obtain ⟨B,lw2,up2,lw4,up4,lw5,up5,a2,a4,a5,k2,k4,k5,hl,hX,hBB,hC2,hC4,hC5,f1,f2,f3,f4,f5,f6,f7,f8,f9,f10,f11,f12⟩:=hl
  obtain ⟨js,rfl⟩:∃js:Nat→Value,l = [js 0,.pointer (some ⟨w.heap.size,0,none⟩),.pointer (some ⟨(w.heap.size+1),0,none⟩),.pointer (some ⟨B,0,none⟩),js 4,js 5,js 6,js 7,js 8,js 9,js 10,js 11,js 12,js 13,js 14,js 15,js 16,js 17,js 18,js 19,js 20,js 21,js 22,js 23,js 24,js 25,js 26,js 27,js 28,js 29,js 30,js 31,js 32,js 33,js 34,js 35,js 36,js 37,js 38,js 39,js 40,js 41]:=⟨fun k=>l.getD k undef,hl⟩
  clear hl
  have hRB:BoxAt W2 (w.heap.size+1) [.int .i64 0,.slice none 0 0,.slice none 0 0,.int .i64 0,.slice none 0 0,.slice none 0 0]:=hby.ext hX
  have t0:=hX.keep p0;have t1:=hX.keep p1;have t2:=hX.keep p2;have t3:=hX.keep p3;have t4:=hX.keep p4;have t5:=hX.keep p5
  have f13:=Below.size hX
  go_wp2
  go_loopw [23] (fun c wr=>∃(i:Nat) (nv:Value),c=.int .i64 i∧i≤b.nodes.length∧BoxAt wr B [.int .i64 b.roots,nv,.slice a2 b.sites.length k2,.int .i64 b.edges,.slice a4 b.outer.length k4,.slice a5 b.inner.length k5]∧RowX 3 NdO 160 W2.heap.size wr.heap.size wr nv (b.nodes.take i)∧IntsO lw2 up2 wr (.slice a2 b.sites.length k2) b.sites∧StrsO lw4 up4 wr (.slice a4 b.outer.length k4) b.outer∧WrsO lw5 up5 wr (.slice a5 b.inner.length k5) b.inner∧BoxAt wr (w.heap.size+1) [.int .i64 0,.slice none 0 0,.slice none 0 0,.int .i64 0,.slice none 0 0,.slice none 0 0]∧Ext W1 wr∧W2.heap.size≤wr.heap.size) (fun c _=>b.nodes.length - (intOf c).toNat)
  case atStart=>exact ⟨0,_,rfl,Nat.zero_le _,hBB,RowX.nil (Nat.le_refl _),hC2,hC4,hC5,hRB,hX,Nat.le_refl _⟩
  case round=>
   clear t0 t1 t2 t3 t4 t5 hBB hC2 hC4 hC5 hRB
   obtain ⟨i,nv,rfl,hi',hBB,hrow,hC2,hC4,hC5,hRB,hx,hzr⟩:=hrel
   by_cases hlt:i<b.nodes.length
   ·have HT:=Lib.hid (List.take_succ_eq_append_getElem hlt)
    have hwn:=wtL_mem wtNd b.nodes b.nodes[i] (List.getElem_mem hlt)
    have hwl:wtNd b.nodes[i]=(b.nodes[i]).links.length:=rfl
    have hln:(b.nodes.take i).length<100000000:=by rw [List.length_take];omega
    rcases g4 with g4|⟨bn,on,rfl,nb1,nb2,g4⟩
    ·rw [g4] at hlt;simp at hlt
    obtain ⟨cs,hl,⟨lv,rfl,e1,e2,e3⟩,hc⟩:=g4 i hlt
    have hxw:=hx1.trans hx
    have q0:=hxw.keep (hc 0 _ rfl)
    have q1:=hxw.keep (hc 1 _ rfl)
    have q2:=hxw.keep (hc 2 _ rfl)
    rw [Nat.add_zero] at q0
    clear g4 hc
    obtain ⟨la,lk,rfl,_⟩:=id e3
    obtain ⟨WD,hWD,hbd,hxd,hzd⟩:=box_facts wr [.int .i64 (b.nodes[i]).control,.int .i64 (b.nodes[i]).parent,.slice la (b.nodes[i]).links.length lk] 160
    have d0:=(hbd 0 _ rfl).1
    have d1:=(hbd 1 _ rfl).1
    have d2:=(hbd 2 _ rfl).1
    have x1:=(hBB.ext hxd 1 _ rfl).1
    have hzd':wr.heap.size<WD.heap.size:=by omega
    replace e3:=(e3.ext IntP.keeps hxw).ext IntP.keeps hxd
    go_wp2_with fail
    (try rw [hWD])
    clear hzd hWD
    refine region_till 11 (S:=(fun w'=>Ext WD w')) (by kernel_rfl) ?_ (fun hHeld=>?_)
    ·exact (Ext.refl WD).drew
    refine ttP 11 0 ?_ ?_ ?_;rotate_left;focus (intro w;go_simp;try with_reducible rfl)
    try simp only [Act.put,aput]
    refine ttY 11 1 ?_ ?_ ?_;rotate_left;focus (intro w hSw;(try dsimp only at hSw);have sd0:=Ext.keep hSw d0;have sd1:=Ext.keep hSw d1;have sd2:=Ext.keep hSw d2;have sx1:=Ext.keep hSw x1;go_simp;try with_reducible rfl)
    try simp only [Act.put,aput]
    refine ttP 11 2 ?_ ?_ ?_;rotate_left;focus (intro w;go_simp;try with_reducible rfl)
    try simp only [Act.put,aput]
    refine ttY 11 3 ?_ ?_ ?_;rotate_left;focus (intro w hSw;(try dsimp only at hSw);have sd0:=Ext.keep hSw d0;have sd1:=Ext.keep hSw d1;have sd2:=Ext.keep hSw d2;have sx1:=Ext.keep hSw x1;go_simp;try with_reducible rfl)
    try simp only [Act.put,aput]
    refine ttP 11 4 ?_ ?_ ?_;rotate_left;focus (intro w;go_simp;try with_reducible rfl)
    try simp only [Act.put,aput]
    refine ttY 11 5 ?_ ?_ ?_;rotate_left;focus (intro w hSw;(try dsimp only at hSw);have sd0:=Ext.keep hSw d0;have sd1:=Ext.keep hSw d1;have sd2:=Ext.keep hSw d2;have sx1:=Ext.keep hSw x1;go_simp;try with_reducible rfl)
    try simp only [Act.put,aput]
    refine ttP 11 6 ?_ ?_ ?_;rotate_left;focus (intro w;go_simp;try with_reducible rfl)
    try simp only [Act.put,aput]
    refine ttY 11 7 ?_ ?_ ?_;rotate_left;focus (intro w hSw;(try dsimp only at hSw);have sd0:=Ext.keep hSw d0;have sd1:=Ext.keep hSw d1;have sd2:=Ext.keep hSw d2;have sx1:=Ext.keep hSw x1;go_simp;try with_reducible rfl)
    try simp only [Act.put,aput]
    refine anyTill_ready (rs:=[8]) (by kernel_rfl) (by simp) ?_
    refine AllReadyT.cons rfl (by decide) (fun K hK=>?_) AllReadyT.nil
    (try simp only [aput])
    go_simp
    (go_at_call 136;refine (c_slices_Clone_int_int lo hi _ (b.nodes[i]).links _ (e3.ext IntP.keeps hHeld) (by omega)).mono ?_;rintro e y ⟨v',rfl,hL,hb⟩;obtain ⟨ua,uk,rfl,_⟩:=id hL)
    show K _ _
    refine hK.out _ _ (by exact hHeld.trans hb) (fun hHeld=>?_)
    clear hK K
    try simp only [Act.put,aput]
    refine ttP 11 9 ?_ ?_ ?_;rotate_left;focus (intro w;go_simp;try with_reducible rfl)
    try simp only [Act.put,aput]
    refine anyTill_ready (rs:=[10]) (by kernel_rfl) (by simp) ?_
    refine AllReadyT.cons rfl (by decide) (fun K hK=>?_) AllReadyT.nil
    (try simp only [aput])
    go_simp
    (refine alloc_box (cs:=[.int .i64 (b.nodes[i]).control,.int .i64 (b.nodes[i]).parent,.slice ua (b.nodes[i]).links.length uk]) ?_;intro wS hbS hzS hSS)
    show K _ _
    refine hK.out _ _ (by exact hHeld.trans hbS) (fun hHeld=>?_)
    clear hK K
    try simp only [Act.put,aput]
    refine anyTill_tail 11 [12,13] (by kernel_rfl) (by decide) (by decide) ?_
    simp only [picked,List.filterMap_cons,List.filterMap_nil,List.getElem?_toArray,List.getElem?_cons_succ,List.getElem?_cons_zero]
    show wpList _ _ _ [_,_,_] _ _
    have hyS:=hxd.trans hHeld
    have hsz:=Below.size hb
    have hsz2:=Below.size hbS
    (try simp only [World.size_drew] at hsz)
    have hrow2:=hrow.ext NdO.keepsO hyS
    have hBS:=hBB.ext hyS
    have hx2:=hx.trans hyS
    have hel:NdO WD.heap.size y.heap.size wS [.int .i64 (b.nodes[i]).control,.int .i64 (b.nodes[i]).parent,.slice ua (b.nodes[i]).links.length uk] b.nodes[i]:=⟨_,rfl,e1,e2,hL.ext IntP.keepsO hbS⟩
    have hsep:∀g,nv.ownBlock=some g→g<WD.heap.size∨y.heap.size≤g:=fun g hg=>.inl (by have:=(hrow.block g hg).2;omega)
    have hne:∀g,nv.ownBlock=some g→g≠B:=fun g hg=>by have:=(hrow.block g hg).1;omega
    go_wp2_with (at_builtin;refine wpList_append_rowX NdO.keepsO rfl (.tmp 28) (.tmp 37) 41 rfl (W2.heap.size) (wr.heap.size) 160 i0 _ 40 Tryz.underlying41 hi0 hz0 hz1 hz2 rfl (by decide) _ _ (by rfl) (hrow2) ⟨y.heap.size,0,none⟩ 1 [.int .i64 (b.nodes[i]).control,.int .i64 (b.nodes[i]).parent,.slice ua (b.nodes[i]).links.length uk] rfl rfl (box_cells hSS) (by simp [Value.oneCell']) (WD.heap.size) (y.heap.size) (by omega) (by omega) (by omega) (by first|omega|(simp <;> omega)) hsep b.nodes[i] (hel)  (by first|omega|(simp <;> omega)) (by decide) (by first|omega|(simp <;> omega)) ?_;intro v3 w3 row3 ext3 gro3 own3;have hB3:=hBS.grown gro3 hne;obtain ⟨x3,xf3⟩:=hB3 1 _ rfl;obtain ⟨a3,n3,c3,rfl⟩:=row3.form3)
    have hzz:=gro3.size
    have hg3:∀g,nv.ownBlock=some g→W2.heap.size≤g:=fun g hg=>(hrow.block g hg).1
    go_roundw
    case rel=>
     refine ⟨i+1,_,rfl,by omega,hB3.set 1 _,?_,?_,?_,?_,?_,?_,?_⟩
     ·rw [HT.out]
      exact (row3.set NdO.keepsO (by omega)).up (by simp) (by simp)
     ·exact ((hC2.ext IntP.keepsO hyS).grown IntP.keepsO gro3 (fun g hg=>by have:=hg3 g hg;omega)).set IntP.keepsO (by omega)
     ·exact ((hC4.ext StrP.keepsO hyS).grown StrP.keepsO gro3 (fun g hg=>by have:=hg3 g hg;omega)).set StrP.keepsO (by omega)
     ·exact ((hC5.ext WrP.keepsO hyS).grown WrP.keepsO gro3 (fun g hg=>by have:=hg3 g hg;omega)).set WrP.keepsO (by omega)
     ·exact ((hRB.ext hyS).grown gro3 (fun g hg=>by have:=hg3 g hg;omega)).other (by omega)
     ·exact Xs (ext3 W1 hx2 (by omega)) (by show _≤B;omega)
     ·simp only [World.size_setCell];omega
    all_goals (simp only [intOf];omega)
   ·have e:i=b.nodes.length:=by omega
    subst e
    rw [List.take_length] at hrow
    obtain ⟨na,nk,rfl,_⟩:=hrow.form
    obtain ⟨o0,of0⟩:=hBB 0 _ rfl;obtain ⟨o1,of1⟩:=hBB 1 _ rfl;obtain ⟨o2,of2⟩:=hBB 2 _ rfl;obtain ⟨o3,of3⟩:=hBB 3 _ rfl;obtain ⟨o4,of4⟩:=hBB 4 _ rfl;obtain ⟨o5,of5⟩:=hBB 5 _ rfl
    obtain ⟨z0,zf0⟩:=hRB 0 _ rfl;obtain ⟨z1,zf1⟩:=hRB 1 _ rfl;obtain ⟨z2,zf2⟩:=hRB 2 _ rfl;obtain ⟨z3,zf3⟩:=hRB 3 _ rfl;obtain ⟨z4,zf4⟩:=hRB 4 _ rfl;obtain ⟨z5,zf5⟩:=hRB 5 _ rfl
    have hNO:=hrow.toSlO (Nat.le_refl _)
    have hxw:=hx1.trans hx
    clear hrow
    go_wp2_with fail
    refine bodyPost_ret (v:=.agg #[.int .i64 b.roots,.slice na b.nodes.length nk,.slice a2 b.sites.length k2,.int .i64 b.edges,.slice a4 b.outer.length k4,.slice a5 b.inner.length k5]) ?_ rfl ⟨[.int .i64 b.roots,.slice na b.nodes.length nk,.slice a2 b.sites.length k2,.int .i64 b.edges,.slice a4 b.outer.length k4,.slice a5 b.inner.length k5],rfl,?_,xw⟩
    ·simp [results,Tryz.results135,go_sem,z0,z1,z2,z3,z4,z5]
    ·refine ⟨_,_,_,_,W2.heap.size,wr.heap.size,lw2,up2,lw4,up4,lw5,up5,rfl,r1,r2,?_,?_,?_,?_,?_⟩
     ·(repeat refine SlO.set NdO.keepsO ?_ (by omega))
      exact hNO
     ·(repeat refine SlO.set IntP.keepsO ?_ (by omega))
      exact hC2
     ·(repeat refine SlO.set StrP.keepsO ?_ (by omega))
      exact hC4
     ·(repeat refine SlO.set WrP.keepsO ?_ (by omega))
      exact hC5
     ·refine ⟨?_,?_⟩ <;> simp [Off] <;> omega
end Go.Proofs.YtccjepndhlobpaaGreatDoor
