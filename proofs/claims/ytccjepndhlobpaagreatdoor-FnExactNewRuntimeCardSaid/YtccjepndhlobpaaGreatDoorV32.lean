/-
  Walks: a runtime in memory of its own.
-/
import Derived.Test.YtccjepndhlobpaaGreatDoorV31
import Derived.Deep.Cut
namespace Go.Proofs.YtccjepndhlobpaaGreatDoor
open Go.RowKit
set_option linter.unusedVariables false
set_option linter.unusedSimpArgs false

theorem infoRntN:(Tryz.prog.info? 46).map (·.size)=some 15:=by kernel_rfl
theorem infoSrtN:(Tryz.prog.info? 39).map (·.size)=some 5:=by kernel_rfl
theorem infoRulN:(Tryz.prog.info? 122).map (·.size)=some 13:=by kernel_rfl
set_option maxRecDepth 100000 in
set_option maxHeartbeats 12800000 in
theorem c_impl_ownRuntime (lo hi:Nat) (cs:List Value) (r:Rnt) (w:World) (h:RntP lo hi w cs r) (hwt:wtRnt r≤1048576) :
 Calls Tryz.prog 79 #[.agg cs.toArray] w fun e w'=>∃ds,e=.returned (.agg ds.toArray)∧RntO w.heap.size w'.heap.size w' ds r∧Ext w w':=by
 have hw:wtRnt r=wtL wtCtl r.sig+wtSrt r.sort+wtL wtRul r.rules+wtL wtStr r.hosts+wtBig r.agent:=rfl
 have hws:wtSrt r.sort=r.sort.tops.length+wtL wtRow r.sort.nest+wtL wtRow r.sort.sorts+r.sort.most.length+r.sort.apart.length:=rfl
 have hw0:r.sig.length≤wtL wtCtl r.sig:=by unfold wtL;omega
 have hw7:r.hosts.length≤wtL wtStr r.hosts:=by unfold wtL;omega
 have hw6:r.rules.length≤wtL wtRul r.rules:=by unfold wtL;omega
 obtain ⟨v0,c1,v6,v7,c8,rfl,E0,E1,E6,E7,E8,Ec⟩:=h
 obtain ⟨ya0,yk0,rfl,_⟩:=id E0
 obtain ⟨_,_,_,_,_,rfl,E10,E11,E12,E13,E14⟩:=E1
 obtain ⟨yb0,yl0,rfl,_⟩:=id E10;obtain ⟨yb1,yl1,rfl,_⟩:=id E11;obtain ⟨yb2,yl2,rfl,_⟩:=id E12;obtain ⟨yb3,yl3,rfl,_⟩:=id E13;obtain ⟨yb4,yl4,rfl,_⟩:=id E14
 obtain ⟨ya6,yk6,rfl,g1,g2,g3,g4⟩:=E6
 unfold maxLen at g2
 obtain ⟨ya7,yk7,rfl,_⟩:=id E7
 obtain ⟨_,_,_,_,rfl,_,_,⟨ya1,yk1,rfl,_⟩,⟨ya2,yk2,rfl,_⟩,⟨ya4,yk4,rfl,_⟩,⟨ya5,yk5,rfl,_⟩⟩:=id E8
 obtain ⟨i0,hi0,h1⟩:=Option.map_eq_some_iff.1 infoRul
 simp only [Prod.mk.injEq] at h1
 obtain ⟨hz0,hz1,hz2⟩:=h1
 obtain ⟨W0,hW0,hbx,hx0,hz⟩:=box_facts w [.slice ya0 r.sig.length yk0,.slice yb0 r.sort.tops.length yl0,.slice yb1 r.sort.nest.length yl1,.slice yb2 r.sort.sorts.length yl2,.slice yb3 r.sort.most.length yl3,.slice yb4 r.sort.apart.length yl4,.slice ya6 r.rules.length yk6,.slice ya7 r.hosts.length yk7,.int .i64 r.agent.roots,.slice ya1 r.agent.nodes.length yk1,.slice ya2 r.agent.sites.length yk2,.int .i64 r.agent.edges,.slice ya4 r.agent.outer.length yk4,.slice ya5 r.agent.inner.length yk5,.int .i64 r.count] 46
 change Calls Tryz.prog 79 #[.agg #[.slice ya0 r.sig.length yk0,.slice yb0 r.sort.tops.length yl0,.slice yb1 r.sort.nest.length yl1,.slice yb2 r.sort.sorts.length yl2,.slice yb3 r.sort.most.length yl3,.slice yb4 r.sort.apart.length yl4,.slice ya6 r.rules.length yk6,.slice ya7 r.hosts.length yk7,.int .i64 r.agent.roots,.slice ya1 r.agent.nodes.length yk1,.slice ya2 r.agent.sites.length yk2,.int .i64 r.agent.edges,.slice ya4 r.agent.outer.length yk4,.slice ya5 r.agent.inner.length yk5,.int .i64 r.count]] w _
 obtain ⟨W1,hW1,hby,hy0,hy⟩:=box_facts W0 [.slice none 0 0,.slice none 0 0,.slice none 0 0,.slice none 0 0,.slice none 0 0,.slice none 0 0,.slice none 0 0,.slice none 0 0,.int .i64 0,.slice none 0 0,.slice none 0 0,.int .i64 0,.slice none 0 0,.slice none 0 0,.int .i64 0] 46
 obtain ⟨W2,hW2,hbs,hs0,hs⟩:=box_facts W1 [.slice yb0 r.sort.tops.length yl0,.slice yb1 r.sort.nest.length yl1,.slice yb2 r.sort.sorts.length yl2,.slice yb3 r.sort.most.length yl3,.slice yb4 r.sort.apart.length yl4] 39
 have hx1:Ext w W2:=(hx0.trans hy0).trans hs0
 have p0:=(hbx 0 _ rfl).1;have p1:=(hbx 1 _ rfl).1;have p2:=(hbx 2 _ rfl).1;have p3:=(hbx 3 _ rfl).1;have p4:=(hbx 4 _ rfl).1;have p5:=(hbx 5 _ rfl).1;have p6:=(hbx 6 _ rfl).1;have p7:=(hbx 7 _ rfl).1;have p8:=(hbx 8 _ rfl).1;have p9:=(hbx 9 _ rfl).1;have p10:=(hbx 10 _ rfl).1;have p11:=(hbx 11 _ rfl).1;have p12:=(hbx 12 _ rfl).1;have p13:=(hbx 13 _ rfl).1;have p14:=(hbx 14 _ rfl).1
 have p0:=hy0.keep p0;have p1:=hy0.keep p1;have p2:=hy0.keep p2;have p3:=hy0.keep p3;have p4:=hy0.keep p4;have p5:=hy0.keep p5;have p6:=hy0.keep p6;have p7:=hy0.keep p7;have p8:=hy0.keep p8;have p9:=hy0.keep p9;have p10:=hy0.keep p10;have p11:=hy0.keep p11;have p12:=hy0.keep p12;have p13:=hy0.keep p13;have p14:=hy0.keep p14
 go_enter Tryz.func79,Tryz.ntmps79
 rw [hz] at hby
 rw [hy,hz] at hbs
 go_wp2_with fail
 (try rw [hW2])
 replace p0:=hs0.keep p0;replace p1:=hs0.keep p1;replace p2:=hs0.keep p2;replace p3:=hs0.keep p3;replace p4:=hs0.keep p4;replace p5:=hs0.keep p5;replace p6:=hs0.keep p6;replace p7:=hs0.keep p7;replace p8:=hs0.keep p8;replace p9:=hs0.keep p9;replace p10:=hs0.keep p10;replace p11:=hs0.keep p11;replace p12:=hs0.keep p12;replace p13:=hs0.keep p13;replace p14:=hs0.keep p14
 have s0:=(hbs 0 _ rfl).1;have s1:=(hbs 1 _ rfl).1;have s2:=(hbs 2 _ rfl).1;have s3:=(hbs 3 _ rfl).1;have s4:=(hbs 4 _ rfl).1
 replace hby:=hby.ext hs0
 have hzw:w.heap.size+1+1<W2.heap.size:=by omega
 clear hz hy hs hW0 hW1 hW2 hbx hbs
 replace E0:=SlV.ext CtlP.keeps E0 hx1;replace E10:=SlV.ext IntP.keeps E10 hx1;replace E11:=SlV.ext RowP.keeps E11 hx1;replace E12:=SlV.ext RowP.keeps E12 hx1;replace E13:=SlV.ext IntP.keeps E13 hx1;replace E14:=SlV.ext PairP.keeps E14 hx1;replace E7:=SlV.ext StrP.keeps E7 hx1
 replace E8:=BigP.keeps _ _ _ _ _ _ (Same.ext hx1) E8
 obtain ⟨R,hR⟩:∃R:List Value→World→Prop,R=(fun l w'=>∃(B lw0 up0 lw7 up7 lw8 up8:Nat) (za0 za7:Option Addr) (zk0 zk7:Nat) (za1 za2 za4 za5:Option Addr) (zk1 zk2 zk4 zk5:Nat),l = [l.getD 0 undef,.pointer (some ⟨w.heap.size,0,none⟩),.pointer (some ⟨(w.heap.size+1),0,none⟩),.pointer (some ⟨(w.heap.size+1+1),0,none⟩),.pointer (some ⟨B,0,none⟩),l.getD 5 undef,l.getD 6 undef,l.getD 7 undef,l.getD 8 undef,l.getD 9 undef,l.getD 10 undef,l.getD 11 undef,l.getD 12 undef,l.getD 13 undef,l.getD 14 undef,l.getD 15 undef,l.getD 16 undef,l.getD 17 undef,l.getD 18 undef,l.getD 19 undef,l.getD 20 undef,l.getD 21 undef,l.getD 22 undef,l.getD 23 undef,l.getD 24 undef,l.getD 25 undef,l.getD 26 undef,l.getD 27 undef,l.getD 28 undef,l.getD 29 undef,l.getD 30 undef,l.getD 31 undef,l.getD 32 undef,l.getD 33 undef,l.getD 34 undef,l.getD 35 undef,l.getD 36 undef,l.getD 37 undef,l.getD 38 undef,l.getD 39 undef,l.getD 40 undef,l.getD 41 undef,l.getD 42 undef,l.getD 43 undef,l.getD 44 undef,l.getD 45 undef,l.getD 46 undef,l.getD 47 undef,l.getD 48 undef,l.getD 49 undef,l.getD 50 undef,l.getD 51 undef,l.getD 52 undef,l.getD 53 undef,l.getD 54 undef,l.getD 55 undef,l.getD 56 undef,l.getD 57 undef,l.getD 58 undef,l.getD 59 undef,l.getD 60 undef,l.getD 61 undef]∧Ext W2 w'∧BoxAt w' B [.slice za0 r.sig.length zk0,.slice none 0 0,.slice none 0 0,.slice none 0 0,.slice none 0 0,.slice none 0 0,.slice none 0 0,.slice za7 r.hosts.length zk7,.int .i64 r.agent.roots,.slice za1 r.agent.nodes.length zk1,.slice za2 r.agent.sites.length zk2,.int .i64 r.agent.edges,.slice za4 r.agent.outer.length zk4,.slice za5 r.agent.inner.length zk5,.int .i64 r.count]∧CtlsO lw0 up0 w' (.slice za0 r.sig.length zk0) r.sig∧StrsO lw7 up7 w' (.slice za7 r.hosts.length zk7) r.hosts∧BigO lw8 up8 w' [.int .i64 r.agent.roots,.slice za1 r.agent.nodes.length zk1,.slice za2 r.agent.sites.length zk2,.int .i64 r.agent.edges,.slice za4 r.agent.outer.length zk4,.slice za5 r.agent.inner.length zk5] r.agent ∧
  (W2.heap.size≤B∧B<w'.heap.size∧W2.heap.size≤lw0∧up0≤lw7∧up7≤lw8∧up8≤w'.heap.size∧lw0≤up0∧lw7≤up7∧lw8≤up8∧(B<lw0∨up0≤B)∧(B<lw7∨up7≤B)∧(B<lw8∨up8≤B))):=⟨_,rfl⟩
 have HR:=Lib.hid hR
 clear hR
 refine region_cut R ?_ ?_
 ·skip
  refine region_till 13 (S:=(fun w'=>Ext W2 w')) (by kernel_rfl) ?_ (fun hHeld=>?_)
  ·exact (Ext.refl W2).drew
  refine ttP 13 0 ?_ ?_ ?_;rotate_left;focus (intro w;go_simp;try with_reducible rfl)
  try simp only [Act.put,aput]
  refine ttY 13 1 ?_ ?_ ?_;rotate_left;focus (intro w hSw;(try dsimp only at hSw);have sp0:=Ext.keep hSw p0;have sp7:=Ext.keep hSw p7;have sp8:=Ext.keep hSw p8;have sp9:=Ext.keep hSw p9;have sp10:=Ext.keep hSw p10;have sp11:=Ext.keep hSw p11;have sp12:=Ext.keep hSw p12;have sp13:=Ext.keep hSw p13;have sp14:=Ext.keep hSw p14;go_simp;try with_reducible rfl)
  try simp only [Act.put,aput]
  refine ttP 13 3 ?_ ?_ ?_;rotate_left;focus (intro w;go_simp;try with_reducible rfl)
  try simp only [Act.put,aput]
  refine ttY 13 4 ?_ ?_ ?_;rotate_left;focus (intro w hSw;(try dsimp only at hSw);have sp0:=Ext.keep hSw p0;have sp7:=Ext.keep hSw p7;have sp8:=Ext.keep hSw p8;have sp9:=Ext.keep hSw p9;have sp10:=Ext.keep hSw p10;have sp11:=Ext.keep hSw p11;have sp12:=Ext.keep hSw p12;have sp13:=Ext.keep hSw p13;have sp14:=Ext.keep hSw p14;go_simp;try with_reducible rfl)
  try simp only [Act.put,aput]
  refine ttP 13 6 ?_ ?_ ?_;rotate_left;focus (intro w;go_simp;try with_reducible rfl)
  try simp only [Act.put,aput]
  refine ttY 13 7 ?_ ?_ ?_;rotate_left;focus (intro w hSw;(try dsimp only at hSw);have sp0:=Ext.keep hSw p0;have sp7:=Ext.keep hSw p7;have sp8:=Ext.keep hSw p8;have sp9:=Ext.keep hSw p9;have sp10:=Ext.keep hSw p10;have sp11:=Ext.keep hSw p11;have sp12:=Ext.keep hSw p12;have sp13:=Ext.keep hSw p13;have sp14:=Ext.keep hSw p14;go_simp;try with_reducible rfl)
  try simp only [Act.put,aput]
  refine ttP 13 9 ?_ ?_ ?_;rotate_left;focus (intro w;go_simp;try with_reducible rfl)
  try simp only [Act.put,aput]
  refine ttY 13 10 ?_ ?_ ?_;rotate_left;focus (intro w hSw;(try dsimp only at hSw);have sp0:=Ext.keep hSw p0;have sp7:=Ext.keep hSw p7;have sp8:=Ext.keep hSw p8;have sp9:=Ext.keep hSw p9;have sp10:=Ext.keep hSw p10;have sp11:=Ext.keep hSw p11;have sp12:=Ext.keep hSw p12;have sp13:=Ext.keep hSw p13;have sp14:=Ext.keep hSw p14;go_simp;try with_reducible rfl)
  try simp only [Act.put,aput]
  refine anyTill_ready (rs:=[2,12]) (by kernel_rfl) (by simp) ?_
  refine AllReadyT.cons rfl (by decide) (fun K hK=>?_) (AllReadyT.cons rfl (by decide) (fun K hK=>?_) (AllReadyT.nil))
  focus
   (try simp only [aput])
   go_simp
   (go_at_call 133;refine (c_slices_Clone_impl_Control_impl_Control lo hi _ r.sig _ (E0.ext CtlP.keeps hHeld) (by omega)).mono ?_;rintro e y0 ⟨c0,rfl,hC0,hb0⟩;have hz0:=Below.size hb0;obtain ⟨lw0,up0,m0,n0,o0,hC0⟩:=hC0.bnd hz0;(try simp only [World.size_drew] at hz0 m0);obtain ⟨za0,zk0,rfl,_⟩:=id hC0;(first|replace hC7:=hC7.ext StrP.keepsO hb0|replace hC7:=hC7.ext StrP.keepsO (hHeld.trans hb0)|skip);(first|replace hC8:=BigO.keepsO.ext hC8 hb0|replace hC8:=BigO.keepsO.ext hC8 (hHeld.trans hb0)|skip);(first|replace hBB:=hBB.ext hb0|replace hBB:=hBB.ext (hHeld.trans hb0)|skip))
   show K _ _
   refine hK.out _ _ (by exact hHeld.trans hb0) (fun hHeld=>?_)
   clear hK K
   try simp only [Act.put,aput]
   refine anyTill_ready (rs:=[5,12]) (by kernel_rfl) (by simp) ?_
   refine AllReadyT.cons rfl (by decide) (fun K hK=>?_) (AllReadyT.cons rfl (by decide) (fun K hK=>?_) (AllReadyT.nil))
   focus
    (try simp only [aput])
    go_simp
    (go_at_call 134;refine (c_slices_Clone_string_string lo hi _ r.hosts _ (E7.ext StrP.keeps hHeld) (by omega)).mono ?_;rintro e y7 ⟨c7,rfl,hC7,hb7⟩;have hz7:=Below.size hb7;obtain ⟨lw7,up7,m7,n7,o7,hC7⟩:=hC7.bnd hz7;(try simp only [World.size_drew] at hz7 m7);obtain ⟨za7,zk7,rfl,_⟩:=id hC7;(first|replace hC0:=hC0.ext CtlP.keepsO hb7|replace hC0:=hC0.ext CtlP.keepsO (hHeld.trans hb7)|skip);(first|replace hC8:=BigO.keepsO.ext hC8 hb7|replace hC8:=BigO.keepsO.ext hC8 (hHeld.trans hb7)|skip);(first|replace hBB:=hBB.ext hb7|replace hBB:=hBB.ext (hHeld.trans hb7)|skip))
    show K _ _
    refine hK.out _ _ (by exact hHeld.trans hb7) (fun hHeld=>?_)
    clear hK K
    try simp only [Act.put,aput]
    refine anyTill_ready (rs:=[8,12]) (by kernel_rfl) (by simp) ?_
    refine AllReadyT.cons rfl (by decide) (fun K hK=>?_) (AllReadyT.cons rfl (by decide) (fun K hK=>?_) (AllReadyT.nil))
    focus
     (try simp only [aput])
     go_simp
     (go_at_call 135;refine (c_impl_ownBigraph lo hi _ r.agent _ (BigP.keeps _ _ _ _ _ _ (Same.ext hHeld) E8) (by omega)).mono ?_;rintro e y8 ⟨c8,rfl,hC8,hb8⟩;have hz8:=Below.size hb8;obtain ⟨lw8,up8,m8,n8,o8,hC8⟩:=lie_bnd hC8 hz8;(try simp only [World.size_drew] at hz8 m8);obtain ⟨_,_,_,_,_,_,_,_,_,_,_,_,rfl,_,_,⟨za1,zk1,rfl,_⟩,⟨za2,zk2,rfl,_⟩,⟨za4,zk4,rfl,_⟩,⟨za5,zk5,rfl,_⟩,_⟩:=id hC8;(first|replace hC0:=hC0.ext CtlP.keepsO hb8|replace hC0:=hC0.ext CtlP.keepsO (hHeld.trans hb8)|skip);(first|replace hC7:=hC7.ext StrP.keepsO hb8|replace hC7:=hC7.ext StrP.keepsO (hHeld.trans hb8)|skip);(first|replace hBB:=hBB.ext hb8|replace hBB:=hBB.ext (hHeld.trans hb8)|skip))
     show K _ _
     refine hK.out _ _ (by exact hHeld.trans hb8) (fun hHeld=>?_)
     clear hK K
     try simp only [Act.put,aput]
     refine ttP 13 11 ?_ ?_ ?_;rotate_left;focus (intro w;go_simp;try with_reducible rfl)
     try simp only [Act.put,aput]
     refine anyTill_ready (rs:=[12]) (by kernel_rfl) (by simp) ?_
     refine AllReadyT.cons rfl (by decide) (fun K hK=>?_) AllReadyT.nil
     (try simp only [aput])
     go_simp
     (first|refine alloc_box (cs:=[.slice none 0 0,.slice none 0 0,.slice none 0 0,.slice none 0 0,.slice none 0 0,.slice none 0 0,.slice none 0 0,.slice none 0 0,.int .i64 0,.slice none 0 0,.slice none 0 0,.int .i64 0,.slice none 0 0,.slice none 0 0,.int .i64 0]) ?_|refine alloc_box_drew (cs:=[.slice none 0 0,.slice none 0 0,.slice none 0 0,.slice none 0 0,.slice none 0 0,.slice none 0 0,.slice none 0 0,.slice none 0 0,.int .i64 0,.slice none 0 0,.slice none 0 0,.int .i64 0,.slice none 0 0,.slice none 0 0,.int .i64 0]) ?_);(intro wB hbB hzB hBB;(try simp only [World.size_drew] at hzB hBB);(first|replace hC0:=hC0.ext CtlP.keepsO hbB|replace hC0:=hC0.ext CtlP.keepsO (hHeld.trans hbB)|skip);(first|replace hC7:=hC7.ext StrP.keepsO hbB|replace hC7:=hC7.ext StrP.keepsO (hHeld.trans hbB)|skip);(first|replace hC8:=BigO.keepsO.ext hC8 hbB|replace hC8:=BigO.keepsO.ext hC8 (hHeld.trans hbB)|skip))
     show K _ _
     refine hK.out _ _ (by first|exact hHeld.trans hbB|exact hbB) (fun hHeld=>?_)
     clear hK K
     try simp only [Act.put,aput]
     refine anyTill_tail 13 [] (by kernel_rfl) (by decide) (by decide) ?_
     simp only [picked,List.filterMap_cons,List.filterMap_nil,List.getElem?_toArray,List.getElem?_cons_succ,List.getElem?_cons_zero]
     show wpList _ _ _ [_] _ _
    rotate_left 1
    focus
     (try simp only [aput])
     go_simp
     (first|refine alloc_box (cs:=[.slice none 0 0,.slice none 0 0,.slice none 0 0,.slice none 0 0,.slice none 0 0,.slice none 0 0,.slice none 0 0,.slice none 0 0,.int .i64 0,.slice none 0 0,.slice none 0 0,.int .i64 0,.slice none 0 0,.slice none 0 0,.int .i64 0]) ?_|refine alloc_box_drew (cs:=[.slice none 0 0,.slice none 0 0,.slice none 0 0,.slice none 0 0,.slice none 0 0,.slice none 0 0,.slice none 0 0,.slice none 0 0,.int .i64 0,.slice none 0 0,.slice none 0 0,.int .i64 0,.slice none 0 0,.slice none 0 0,.int .i64 0]) ?_);(intro wB hbB hzB hBB;(try simp only [World.size_drew] at hzB hBB);(first|replace hC0:=hC0.ext CtlP.keepsO hbB|replace hC0:=hC0.ext CtlP.keepsO (hHeld.trans hbB)|skip);(first|replace hC7:=hC7.ext StrP.keepsO hbB|replace hC7:=hC7.ext StrP.keepsO (hHeld.trans hbB)|skip);(first|replace hC8:=BigO.keepsO.ext hC8 hbB|replace hC8:=BigO.keepsO.ext hC8 (hHeld.trans hbB)|skip))
     show K _ _
     refine hK.out _ _ (by first|exact hHeld.trans hbB|exact hbB) (fun hHeld=>?_)
     clear hK K
     try simp only [Act.put,aput]
     refine anyTill_ready (rs:=[8]) (by kernel_rfl) (by simp) ?_
     refine AllReadyT.cons rfl (by decide) (fun K hK=>?_) AllReadyT.nil
     (try simp only [aput])
     go_simp
     (go_at_call 135;refine (c_impl_ownBigraph lo hi _ r.agent _ (BigP.keeps _ _ _ _ _ _ (Same.ext hHeld) E8) (by omega)).mono ?_;rintro e y8 ⟨c8,rfl,hC8,hb8⟩;have hz8:=Below.size hb8;obtain ⟨lw8,up8,m8,n8,o8,hC8⟩:=lie_bnd hC8 hz8;(try simp only [World.size_drew] at hz8 m8);obtain ⟨_,_,_,_,_,_,_,_,_,_,_,_,rfl,_,_,⟨za1,zk1,rfl,_⟩,⟨za2,zk2,rfl,_⟩,⟨za4,zk4,rfl,_⟩,⟨za5,zk5,rfl,_⟩,_⟩:=id hC8;(first|replace hC0:=hC0.ext CtlP.keepsO hb8|replace hC0:=hC0.ext CtlP.keepsO (hHeld.trans hb8)|skip);(first|replace hC7:=hC7.ext StrP.keepsO hb8|replace hC7:=hC7.ext StrP.keepsO (hHeld.trans hb8)|skip);(first|replace hBB:=hBB.ext hb8|replace hBB:=hBB.ext (hHeld.trans hb8)|skip))
     show K _ _
     refine hK.out _ _ (by exact hHeld.trans hb8) (fun hHeld=>?_)
     clear hK K
     try simp only [Act.put,aput]
     refine ttP 13 11 ?_ ?_ ?_;rotate_left;focus (intro w;go_simp;try with_reducible rfl)
     try simp only [Act.put,aput]
     refine anyTill_tail 13 [] (by kernel_rfl) (by decide) (by decide) ?_
     simp only [picked,List.filterMap_cons,List.filterMap_nil,List.getElem?_toArray,List.getElem?_cons_succ,List.getElem?_cons_zero]
     show wpList _ _ _ [_] _ _
    rotate_left 1
   rotate_left 2
   focus
    (try simp only [aput])
    go_simp
    (first|refine alloc_box (cs:=[.slice none 0 0,.slice none 0 0,.slice none 0 0,.slice none 0 0,.slice none 0 0,.slice none 0 0,.slice none 0 0,.slice none 0 0,.int .i64 0,.slice none 0 0,.slice none 0 0,.int .i64 0,.slice none 0 0,.slice none 0 0,.int .i64 0]) ?_|refine alloc_box_drew (cs:=[.slice none 0 0,.slice none 0 0,.slice none 0 0,.slice none 0 0,.slice none 0 0,.slice none 0 0,.slice none 0 0,.slice none 0 0,.int .i64 0,.slice none 0 0,.slice none 0 0,.int .i64 0,.slice none 0 0,.slice none 0 0,.int .i64 0]) ?_);(intro wB hbB hzB hBB;(try simp only [World.size_drew] at hzB hBB);(first|replace hC0:=hC0.ext CtlP.keepsO hbB|replace hC0:=hC0.ext CtlP.keepsO (hHeld.trans hbB)|skip);(first|replace hC7:=hC7.ext StrP.keepsO hbB|replace hC7:=hC7.ext StrP.keepsO (hHeld.trans hbB)|skip);(first|replace hC8:=BigO.keepsO.ext hC8 hbB|replace hC8:=BigO.keepsO.ext hC8 (hHeld.trans hbB)|skip))
    show K _ _
    refine hK.out _ _ (by first|exact hHeld.trans hbB|exact hbB) (fun hHeld=>?_)
    clear hK K
    try simp only [Act.put,aput]
    refine anyTill_ready (rs:=[5]) (by kernel_rfl) (by simp) ?_
    refine AllReadyT.cons rfl (by decide) (fun K hK=>?_) AllReadyT.nil
    (try simp only [aput])
    go_simp
    (go_at_call 134;refine (c_slices_Clone_string_string lo hi _ r.hosts _ (E7.ext StrP.keeps hHeld) (by omega)).mono ?_;rintro e y7 ⟨c7,rfl,hC7,hb7⟩;have hz7:=Below.size hb7;obtain ⟨lw7,up7,m7,n7,o7,hC7⟩:=hC7.bnd hz7;(try simp only [World.size_drew] at hz7 m7);obtain ⟨za7,zk7,rfl,_⟩:=id hC7;(first|replace hC0:=hC0.ext CtlP.keepsO hb7|replace hC0:=hC0.ext CtlP.keepsO (hHeld.trans hb7)|skip);(first|replace hC8:=BigO.keepsO.ext hC8 hb7|replace hC8:=BigO.keepsO.ext hC8 (hHeld.trans hb7)|skip);(first|replace hBB:=hBB.ext hb7|replace hBB:=hBB.ext (hHeld.trans hb7)|skip))
    show K _ _
    refine hK.out _ _ (by exact hHeld.trans hb7) (fun hHeld=>?_)
    clear hK K
    try simp only [Act.put,aput]
    refine anyTill_ready (rs:=[8]) (by kernel_rfl) (by simp) ?_
    refine AllReadyT.cons rfl (by decide) (fun K hK=>?_) AllReadyT.nil
    (try simp only [aput])
    go_simp
    (go_at_call 135;refine (c_impl_ownBigraph lo hi _ r.agent _ (BigP.keeps _ _ _ _ _ _ (Same.ext hHeld) E8) (by omega)).mono ?_;rintro e y8 ⟨c8,rfl,hC8,hb8⟩;have hz8:=Below.size hb8;obtain ⟨lw8,up8,m8,n8,o8,hC8⟩:=lie_bnd hC8 hz8;(try simp only [World.size_drew] at hz8 m8);obtain ⟨_,_,_,_,_,_,_,_,_,_,_,_,rfl,_,_,⟨za1,zk1,rfl,_⟩,⟨za2,zk2,rfl,_⟩,⟨za4,zk4,rfl,_⟩,⟨za5,zk5,rfl,_⟩,_⟩:=id hC8;(first|replace hC0:=hC0.ext CtlP.keepsO hb8|replace hC0:=hC0.ext CtlP.keepsO (hHeld.trans hb8)|skip);(first|replace hC7:=hC7.ext StrP.keepsO hb8|replace hC7:=hC7.ext StrP.keepsO (hHeld.trans hb8)|skip);(first|replace hBB:=hBB.ext hb8|replace hBB:=hBB.ext (hHeld.trans hb8)|skip))
    show K _ _
    refine hK.out _ _ (by exact hHeld.trans hb8) (fun hHeld=>?_)
    clear hK K
    try simp only [Act.put,aput]
    refine ttP 13 11 ?_ ?_ ?_;rotate_left;focus (intro w;go_simp;try with_reducible rfl)
    try simp only [Act.put,aput]
    refine anyTill_tail 13 [] (by kernel_rfl) (by decide) (by decide) ?_
    simp only [picked,List.filterMap_cons,List.filterMap_nil,List.getElem?_toArray,List.getElem?_cons_succ,List.getElem?_cons_zero]
    show wpList _ _ _ [_] _ _
   rotate_left 1
  rotate_left 3
  focus
   (try simp only [aput])
   go_simp
   (first|refine alloc_box (cs:=[.slice none 0 0,.slice none 0 0,.slice none 0 0,.slice none 0 0,.slice none 0 0,.slice none 0 0,.slice none 0 0,.slice none 0 0,.int .i64 0,.slice none 0 0,.slice none 0 0,.int .i64 0,.slice none 0 0,.slice none 0 0,.int .i64 0]) ?_|refine alloc_box_drew (cs:=[.slice none 0 0,.slice none 0 0,.slice none 0 0,.slice none 0 0,.slice none 0 0,.slice none 0 0,.slice none 0 0,.slice none 0 0,.int .i64 0,.slice none 0 0,.slice none 0 0,.int .i64 0,.slice none 0 0,.slice none 0 0,.int .i64 0]) ?_);(intro wB hbB hzB hBB;(try simp only [World.size_drew] at hzB hBB);(first|replace hC0:=hC0.ext CtlP.keepsO hbB|replace hC0:=hC0.ext CtlP.keepsO (hHeld.trans hbB)|skip);(first|replace hC7:=hC7.ext StrP.keepsO hbB|replace hC7:=hC7.ext StrP.keepsO (hHeld.trans hbB)|skip);(first|replace hC8:=BigO.keepsO.ext hC8 hbB|replace hC8:=BigO.keepsO.ext hC8 (hHeld.trans hbB)|skip))
   show K _ _
   refine hK.out _ _ (by first|exact hHeld.trans hbB|exact hbB) (fun hHeld=>?_)
   clear hK K
   try simp only [Act.put,aput]
   refine anyTill_ready (rs:=[2]) (by kernel_rfl) (by simp) ?_
   refine AllReadyT.cons rfl (by decide) (fun K hK=>?_) AllReadyT.nil
   (try simp only [aput])
   go_simp
   (go_at_call 133;refine (c_slices_Clone_impl_Control_impl_Control lo hi _ r.sig _ (E0.ext CtlP.keeps hHeld) (by omega)).mono ?_;rintro e y0 ⟨c0,rfl,hC0,hb0⟩;have hz0:=Below.size hb0;obtain ⟨lw0,up0,m0,n0,o0,hC0⟩:=hC0.bnd hz0;(try simp only [World.size_drew] at hz0 m0);obtain ⟨za0,zk0,rfl,_⟩:=id hC0;(first|replace hC7:=hC7.ext StrP.keepsO hb0|replace hC7:=hC7.ext StrP.keepsO (hHeld.trans hb0)|skip);(first|replace hC8:=BigO.keepsO.ext hC8 hb0|replace hC8:=BigO.keepsO.ext hC8 (hHeld.trans hb0)|skip);(first|replace hBB:=hBB.ext hb0|replace hBB:=hBB.ext (hHeld.trans hb0)|skip))
   show K _ _
   refine hK.out _ _ (by exact hHeld.trans hb0) (fun hHeld=>?_)
   clear hK K
   try simp only [Act.put,aput]
   refine anyTill_ready (rs:=[5]) (by kernel_rfl) (by simp) ?_
   refine AllReadyT.cons rfl (by decide) (fun K hK=>?_) AllReadyT.nil
   (try simp only [aput])
   go_simp
   (go_at_call 134;refine (c_slices_Clone_string_string lo hi _ r.hosts _ (E7.ext StrP.keeps hHeld) (by omega)).mono ?_;rintro e y7 ⟨c7,rfl,hC7,hb7⟩;have hz7:=Below.size hb7;obtain ⟨lw7,up7,m7,n7,o7,hC7⟩:=hC7.bnd hz7;(try simp only [World.size_drew] at hz7 m7);obtain ⟨za7,zk7,rfl,_⟩:=id hC7;(first|replace hC0:=hC0.ext CtlP.keepsO hb7|replace hC0:=hC0.ext CtlP.keepsO (hHeld.trans hb7)|skip);(first|replace hC8:=BigO.keepsO.ext hC8 hb7|replace hC8:=BigO.keepsO.ext hC8 (hHeld.trans hb7)|skip);(first|replace hBB:=hBB.ext hb7|replace hBB:=hBB.ext (hHeld.trans hb7)|skip))
   show K _ _
   refine hK.out _ _ (by exact hHeld.trans hb7) (fun hHeld=>?_)
   clear hK K
   try simp only [Act.put,aput]
   refine anyTill_ready (rs:=[8]) (by kernel_rfl) (by simp) ?_
   refine AllReadyT.cons rfl (by decide) (fun K hK=>?_) AllReadyT.nil
   (try simp only [aput])
   go_simp
   (go_at_call 135;refine (c_impl_ownBigraph lo hi _ r.agent _ (BigP.keeps _ _ _ _ _ _ (Same.ext hHeld) E8) (by omega)).mono ?_;rintro e y8 ⟨c8,rfl,hC8,hb8⟩;have hz8:=Below.size hb8;obtain ⟨lw8,up8,m8,n8,o8,hC8⟩:=lie_bnd hC8 hz8;(try simp only [World.size_drew] at hz8 m8);obtain ⟨_,_,_,_,_,_,_,_,_,_,_,_,rfl,_,_,⟨za1,zk1,rfl,_⟩,⟨za2,zk2,rfl,_⟩,⟨za4,zk4,rfl,_⟩,⟨za5,zk5,rfl,_⟩,_⟩:=id hC8;(first|replace hC0:=hC0.ext CtlP.keepsO hb8|replace hC0:=hC0.ext CtlP.keepsO (hHeld.trans hb8)|skip);(first|replace hC7:=hC7.ext StrP.keepsO hb8|replace hC7:=hC7.ext StrP.keepsO (hHeld.trans hb8)|skip);(first|replace hBB:=hBB.ext hb8|replace hBB:=hBB.ext (hHeld.trans hb8)|skip))
   show K _ _
   refine hK.out _ _ (by exact hHeld.trans hb8) (fun hHeld=>?_)
   clear hK K
   try simp only [Act.put,aput]
   refine ttP 13 11 ?_ ?_ ?_;rotate_left;focus (intro w;go_simp;try with_reducible rfl)
   try simp only [Act.put,aput]
   refine anyTill_tail 13 [] (by kernel_rfl) (by decide) (by decide) ?_
   simp only [picked,List.filterMap_cons,List.filterMap_nil,List.getElem?_toArray,List.getElem?_cons_succ,List.getElem?_cons_zero]
   show wpList _ _ _ [_] _ _
  rotate_left 1
  all_goals have hsz:=Below.size hHeld
  all_goals
   refine wpList_store_box rfl 46 (.tmp 4) (.tmp 20) rfl _ 0 [.slice za0 r.sig.length zk0,.slice none 0 0,.slice none 0 0,.slice none 0 0,.slice none 0 0,.slice none 0 0,.slice none 0 0,.slice za7 r.hosts.length zk7,.int .i64 r.agent.roots,.slice za1 r.agent.nodes.length zk1,.slice za2 r.agent.sites.length zk2,.int .i64 r.agent.edges,.slice za4 r.agent.outer.length zk4,.slice za5 r.agent.inner.length zk5,.int .i64 r.count] _ rfl rfl hBB (by simp) infoRntN (by simp [Value.oneCell']) ?_
   intro wL hB2 hgr hsz2
   have hX2:=hHeld.own hgr (fun g hg=>by cases hg;omega)
   replace hC0:=hC0.grown CtlP.keepsO hgr (fun g hg=>by cases hg;omega)
   replace hC7:=hC7.grown StrP.keepsO hgr (fun g hg=>by cases hg;omega)
   replace hC8:=BigO.keepsO.grown hC8 hgr (fun g hg=>by cases hg;omega)
   go_wp2_with fail
   refine ⟨_,rfl,?_⟩
   rw [HR.out]
   exact ⟨_,lw0,up0,lw7,up7,lw8,up8,za0,za7,zk0,zk7,za1,za2,za4,za5,zk1,zk2,zk4,zk5,rfl,hX2,hB2,hC0,hC7,hC8,by omega,by omega,by omega,by omega,by omega,by omega,by omega,by omega,by omega,by omega,by omega,by omega⟩
 ·rintro l W3 hl
  rw [HR.out] at hl
  clear HR
  obtain ⟨B,lw0,up0,lw7,up7,lw8,up8,za0,za7,zk0,zk7,za1,za2,za4,za5,zk1,zk2,zk4,zk5,hl,hX,hBB,hC0,hC7,hC8,f1,f2,f3,f4,f5,f6,f7,f8,f9,f10,f11,f12⟩:=hl
  obtain ⟨js,rfl⟩:∃js:Nat→Value,l = [js 0,.pointer (some ⟨w.heap.size,0,none⟩),.pointer (some ⟨(w.heap.size+1),0,none⟩),.pointer (some ⟨(w.heap.size+1+1),0,none⟩),.pointer (some ⟨B,0,none⟩),js 5,js 6,js 7,js 8,js 9,js 10,js 11,js 12,js 13,js 14,js 15,js 16,js 17,js 18,js 19,js 20,js 21,js 22,js 23,js 24,js 25,js 26,js 27,js 28,js 29,js 30,js 31,js 32,js 33,js 34,js 35,js 36,js 37,js 38,js 39,js 40,js 41,js 42,js 43,js 44,js 45,js 46,js 47,js 48,js 49,js 50,js 51,js 52,js 53,js 54,js 55,js 56,js 57,js 58,js 59,js 60,js 61]:=⟨fun k=>l.getD k undef,hl⟩
  clear hl
  have pw6:=p6
  replace hby:=hby.ext hX
  replace p0:=hX.keep p0;replace p1:=hX.keep p1;replace p2:=hX.keep p2;replace p3:=hX.keep p3;replace p4:=hX.keep p4;replace p5:=hX.keep p5;replace p6:=hX.keep p6;replace p7:=hX.keep p7;replace p8:=hX.keep p8;replace p9:=hX.keep p9;replace p10:=hX.keep p10;replace p11:=hX.keep p11;replace p12:=hX.keep p12;replace p13:=hX.keep p13;replace p14:=hX.keep p14
  replace s0:=hX.keep s0;replace s1:=hX.keep s1;replace s2:=hX.keep s2;replace s3:=hX.keep s3;replace s4:=hX.keep s4
  have hx3:=hx1.trans hX
  have f13:=Below.size hX
  replace E10:=SlV.ext IntP.keeps E10 hX;replace E11:=SlV.ext RowP.keeps E11 hX;replace E12:=SlV.ext RowP.keeps E12 hX;replace E13:=SlV.ext IntP.keeps E13 hX;replace E14:=SlV.ext PairP.keeps E14 hX
  clear E0 E7 E8
  go_wp2_with fail
  refine region_till 17 (S:=(fun w'=>Ext W3 w')) (by kernel_rfl) ?_ (fun hHeld=>?_)
  ·exact (Ext.refl W3).drew
  refine ttP 17 0 ?_ ?_ ?_;rotate_left;focus (intro w;go_simp;try with_reducible rfl)
  try simp only [Act.put,aput]
  refine ttY 17 1 ?_ ?_ ?_;rotate_left;focus (intro w hSw;(try dsimp only at hSw);have ss0:=Ext.keep hSw s0;have ss1:=Ext.keep hSw s1;have ss2:=Ext.keep hSw s2;have ss3:=Ext.keep hSw s3;have ss4:=Ext.keep hSw s4;go_simp;try with_reducible rfl)
  try simp only [Act.put,aput]
  refine ttP 17 3 ?_ ?_ ?_;rotate_left;focus (intro w;go_simp;try with_reducible rfl)
  try simp only [Act.put,aput]
  refine ttY 17 4 ?_ ?_ ?_;rotate_left;focus (intro w hSw;(try dsimp only at hSw);have ss0:=Ext.keep hSw s0;have ss1:=Ext.keep hSw s1;have ss2:=Ext.keep hSw s2;have ss3:=Ext.keep hSw s3;have ss4:=Ext.keep hSw s4;go_simp;try with_reducible rfl)
  try simp only [Act.put,aput]
  refine ttP 17 6 ?_ ?_ ?_;rotate_left;focus (intro w;go_simp;try with_reducible rfl)
  try simp only [Act.put,aput]
  refine ttY 17 7 ?_ ?_ ?_;rotate_left;focus (intro w hSw;(try dsimp only at hSw);have ss0:=Ext.keep hSw s0;have ss1:=Ext.keep hSw s1;have ss2:=Ext.keep hSw s2;have ss3:=Ext.keep hSw s3;have ss4:=Ext.keep hSw s4;go_simp;try with_reducible rfl)
  try simp only [Act.put,aput]
  refine ttP 17 9 ?_ ?_ ?_;rotate_left;focus (intro w;go_simp;try with_reducible rfl)
  try simp only [Act.put,aput]
  refine ttY 17 10 ?_ ?_ ?_;rotate_left;focus (intro w hSw;(try dsimp only at hSw);have ss0:=Ext.keep hSw s0;have ss1:=Ext.keep hSw s1;have ss2:=Ext.keep hSw s2;have ss3:=Ext.keep hSw s3;have ss4:=Ext.keep hSw s4;go_simp;try with_reducible rfl)
  try simp only [Act.put,aput]
  refine ttP 17 12 ?_ ?_ ?_;rotate_left;focus (intro w;go_simp;try with_reducible rfl)
  try simp only [Act.put,aput]
  refine ttY 17 13 ?_ ?_ ?_;rotate_left;focus (intro w hSw;(try dsimp only at hSw);have ss0:=Ext.keep hSw s0;have ss1:=Ext.keep hSw s1;have ss2:=Ext.keep hSw s2;have ss3:=Ext.keep hSw s3;have ss4:=Ext.keep hSw s4;go_simp;try with_reducible rfl)
  try simp only [Act.put,aput]
  refine anyTill_ready (rs:=[2]) (by kernel_rfl) (by simp) ?_
  refine AllReadyT.cons rfl (by decide) (fun K hK=>?_) AllReadyT.nil
  (try simp only [aput])
  go_simp
  (go_at_call 136;refine (c_slices_Clone_int_int lo hi _ r.sort.tops _ (E10.ext IntP.keeps hHeld) (by omega)).mono ?_;rintro e y10 ⟨c10,rfl,hC10,hb10⟩;have hz10:=Below.size hb10;obtain ⟨lw10,up10,m10,n10,o10,hC10⟩:=hC10.bnd hz10;(try simp only [World.size_drew] at hz10 m10);obtain ⟨zb0,zl0,rfl,_⟩:=id hC10;(first|replace hC0:=hC0.ext CtlP.keepsO hb10|replace hC0:=hC0.ext CtlP.keepsO (hHeld.trans hb10)|skip);(first|replace hC7:=hC7.ext StrP.keepsO hb10|replace hC7:=hC7.ext StrP.keepsO (hHeld.trans hb10)|skip);(first|replace hC8:=BigO.keepsO.ext hC8 hb10|replace hC8:=BigO.keepsO.ext hC8 (hHeld.trans hb10)|skip);(first|replace hBB:=hBB.ext hb10|replace hBB:=hBB.ext (hHeld.trans hb10)|skip);(first|replace hC11:=hC11.ext RowO.keepsO hb10|replace hC11:=hC11.ext RowO.keepsO (hHeld.trans hb10)|skip);(first|replace hC12:=hC12.ext RowO.keepsO hb10|replace hC12:=hC12.ext RowO.keepsO (hHeld.trans hb10)|skip);(first|replace hC13:=hC13.ext IntP.keepsO hb10|replace hC13:=hC13.ext IntP.keepsO (hHeld.trans hb10)|skip);(first|replace hC14:=hC14.ext PairP.keepsO hb10|replace hC14:=hC14.ext PairP.keepsO (hHeld.trans hb10)|skip))
  show K _ _
  refine hK.out _ _ (by exact hHeld.trans hb10) (fun hHeld=>?_)
  clear hK K
  try simp only [Act.put,aput]
  refine anyTill_ready (rs:=[5]) (by kernel_rfl) (by simp) ?_
  refine AllReadyT.cons rfl (by decide) (fun K hK=>?_) AllReadyT.nil
  (try simp only [aput])
  go_simp
  (go_at_call 137;refine (c_impl_ownTable lo hi _ r.sort.nest _ (E11.ext RowP.keeps hHeld) (by omega)).mono ?_;rintro e y11 ⟨c11,rfl,hC11,hb11⟩;have hz11:=Below.size hb11;obtain ⟨lw11,up11,m11,n11,o11,hC11⟩:=hC11.bnd hz11;(try simp only [World.size_drew] at hz11 m11);obtain ⟨zb1,zl1,rfl,_⟩:=id hC11;(first|replace hC0:=hC0.ext CtlP.keepsO hb11|replace hC0:=hC0.ext CtlP.keepsO (hHeld.trans hb11)|skip);(first|replace hC7:=hC7.ext StrP.keepsO hb11|replace hC7:=hC7.ext StrP.keepsO (hHeld.trans hb11)|skip);(first|replace hC8:=BigO.keepsO.ext hC8 hb11|replace hC8:=BigO.keepsO.ext hC8 (hHeld.trans hb11)|skip);(first|replace hBB:=hBB.ext hb11|replace hBB:=hBB.ext (hHeld.trans hb11)|skip);(first|replace hC10:=hC10.ext IntP.keepsO hb11|replace hC10:=hC10.ext IntP.keepsO (hHeld.trans hb11)|skip);(first|replace hC12:=hC12.ext RowO.keepsO hb11|replace hC12:=hC12.ext RowO.keepsO (hHeld.trans hb11)|skip);(first|replace hC13:=hC13.ext IntP.keepsO hb11|replace hC13:=hC13.ext IntP.keepsO (hHeld.trans hb11)|skip);(first|replace hC14:=hC14.ext PairP.keepsO hb11|replace hC14:=hC14.ext PairP.keepsO (hHeld.trans hb11)|skip))
  show K _ _
  refine hK.out _ _ (by exact hHeld.trans hb11) (fun hHeld=>?_)
  clear hK K
  try simp only [Act.put,aput]
  refine anyTill_ready (rs:=[8]) (by kernel_rfl) (by simp) ?_
  refine AllReadyT.cons rfl (by decide) (fun K hK=>?_) AllReadyT.nil
  (try simp only [aput])
  go_simp
  (go_at_call 137;refine (c_impl_ownTable lo hi _ r.sort.sorts _ (E12.ext RowP.keeps hHeld) (by omega)).mono ?_;rintro e y12 ⟨c12,rfl,hC12,hb12⟩;have hz12:=Below.size hb12;obtain ⟨lw12,up12,m12,n12,o12,hC12⟩:=hC12.bnd hz12;(try simp only [World.size_drew] at hz12 m12);obtain ⟨zb2,zl2,rfl,_⟩:=id hC12;(first|replace hC0:=hC0.ext CtlP.keepsO hb12|replace hC0:=hC0.ext CtlP.keepsO (hHeld.trans hb12)|skip);(first|replace hC7:=hC7.ext StrP.keepsO hb12|replace hC7:=hC7.ext StrP.keepsO (hHeld.trans hb12)|skip);(first|replace hC8:=BigO.keepsO.ext hC8 hb12|replace hC8:=BigO.keepsO.ext hC8 (hHeld.trans hb12)|skip);(first|replace hBB:=hBB.ext hb12|replace hBB:=hBB.ext (hHeld.trans hb12)|skip);(first|replace hC10:=hC10.ext IntP.keepsO hb12|replace hC10:=hC10.ext IntP.keepsO (hHeld.trans hb12)|skip);(first|replace hC11:=hC11.ext RowO.keepsO hb12|replace hC11:=hC11.ext RowO.keepsO (hHeld.trans hb12)|skip);(first|replace hC13:=hC13.ext IntP.keepsO hb12|replace hC13:=hC13.ext IntP.keepsO (hHeld.trans hb12)|skip);(first|replace hC14:=hC14.ext PairP.keepsO hb12|replace hC14:=hC14.ext PairP.keepsO (hHeld.trans hb12)|skip))
  show K _ _
  refine hK.out _ _ (by exact hHeld.trans hb12) (fun hHeld=>?_)
  clear hK K
  try simp only [Act.put,aput]
  refine anyTill_ready (rs:=[11]) (by kernel_rfl) (by simp) ?_
  refine AllReadyT.cons rfl (by decide) (fun K hK=>?_) AllReadyT.nil
  (try simp only [aput])
  go_simp
  (go_at_call 136;refine (c_slices_Clone_int_int lo hi _ r.sort.most _ (E13.ext IntP.keeps hHeld) (by omega)).mono ?_;rintro e y13 ⟨c13,rfl,hC13,hb13⟩;have hz13:=Below.size hb13;obtain ⟨lw13,up13,m13,n13,o13,hC13⟩:=hC13.bnd hz13;(try simp only [World.size_drew] at hz13 m13);obtain ⟨zb3,zl3,rfl,_⟩:=id hC13;(first|replace hC0:=hC0.ext CtlP.keepsO hb13|replace hC0:=hC0.ext CtlP.keepsO (hHeld.trans hb13)|skip);(first|replace hC7:=hC7.ext StrP.keepsO hb13|replace hC7:=hC7.ext StrP.keepsO (hHeld.trans hb13)|skip);(first|replace hC8:=BigO.keepsO.ext hC8 hb13|replace hC8:=BigO.keepsO.ext hC8 (hHeld.trans hb13)|skip);(first|replace hBB:=hBB.ext hb13|replace hBB:=hBB.ext (hHeld.trans hb13)|skip);(first|replace hC10:=hC10.ext IntP.keepsO hb13|replace hC10:=hC10.ext IntP.keepsO (hHeld.trans hb13)|skip);(first|replace hC11:=hC11.ext RowO.keepsO hb13|replace hC11:=hC11.ext RowO.keepsO (hHeld.trans hb13)|skip);(first|replace hC12:=hC12.ext RowO.keepsO hb13|replace hC12:=hC12.ext RowO.keepsO (hHeld.trans hb13)|skip);(first|replace hC14:=hC14.ext PairP.keepsO hb13|replace hC14:=hC14.ext PairP.keepsO (hHeld.trans hb13)|skip))
  show K _ _
  refine hK.out _ _ (by exact hHeld.trans hb13) (fun hHeld=>?_)
  clear hK K
  try simp only [Act.put,aput]
  refine anyTill_ready (rs:=[14]) (by kernel_rfl) (by simp) ?_
  refine AllReadyT.cons rfl (by decide) (fun K hK=>?_) AllReadyT.nil
  (try simp only [aput])
  go_simp
  (go_at_call 138;refine (c_slices_Clone_2_int_2_int lo hi _ r.sort.apart _ (E14.ext PairP.keeps hHeld) (by omega)).mono ?_;rintro e y14 ⟨c14,rfl,hC14,hb14⟩;have hz14:=Below.size hb14;obtain ⟨lw14,up14,m14,n14,o14,hC14⟩:=hC14.bnd hz14;(try simp only [World.size_drew] at hz14 m14);obtain ⟨zb4,zl4,rfl,_⟩:=id hC14;(first|replace hC0:=hC0.ext CtlP.keepsO hb14|replace hC0:=hC0.ext CtlP.keepsO (hHeld.trans hb14)|skip);(first|replace hC7:=hC7.ext StrP.keepsO hb14|replace hC7:=hC7.ext StrP.keepsO (hHeld.trans hb14)|skip);(first|replace hC8:=BigO.keepsO.ext hC8 hb14|replace hC8:=BigO.keepsO.ext hC8 (hHeld.trans hb14)|skip);(first|replace hBB:=hBB.ext hb14|replace hBB:=hBB.ext (hHeld.trans hb14)|skip);(first|replace hC10:=hC10.ext IntP.keepsO hb14|replace hC10:=hC10.ext IntP.keepsO (hHeld.trans hb14)|skip);(first|replace hC11:=hC11.ext RowO.keepsO hb14|replace hC11:=hC11.ext RowO.keepsO (hHeld.trans hb14)|skip);(first|replace hC12:=hC12.ext RowO.keepsO hb14|replace hC12:=hC12.ext RowO.keepsO (hHeld.trans hb14)|skip);(first|replace hC13:=hC13.ext IntP.keepsO hb14|replace hC13:=hC13.ext IntP.keepsO (hHeld.trans hb14)|skip))
  show K _ _
  refine hK.out _ _ (by exact hHeld.trans hb14) (fun hHeld=>?_)
  clear hK K
  try simp only [Act.put,aput]
  refine ttP 17 15 ?_ ?_ ?_;rotate_left;focus (intro w;go_simp;try with_reducible rfl)
  try simp only [Act.put,aput]
  refine ttP 17 16 ?_ ?_ ?_;rotate_left;focus (intro w;go_simp;try with_reducible rfl)
  try simp only [Act.put,aput]
  refine anyTill_tail 17 [] (by kernel_rfl) (by decide) (by decide) ?_
  simp only [picked,List.filterMap_cons,List.filterMap_nil,List.getElem?_toArray,List.getElem?_cons_succ,List.getElem?_cons_zero]
  show wpList _ _ _ [_] _ _
  refine wpList_store_box rfl 39 (.tmp 37) (.tmp 36) rfl _ 1 [.slice zb0 r.sort.tops.length zl0,.slice zb1 r.sort.nest.length zl1,.slice zb2 r.sort.sorts.length zl2,.slice zb3 r.sort.most.length zl3,.slice zb4 r.sort.apart.length zl4] _ rfl rfl hBB (by simp) infoSrtN (by simp [Value.oneCell']) ?_
  intro W4 hB2 hgr hsz2
  replace hB2:BoxAt W4 B [.slice za0 r.sig.length zk0,.slice zb0 r.sort.tops.length zl0,.slice zb1 r.sort.nest.length zl1,.slice zb2 r.sort.sorts.length zl2,.slice zb3 r.sort.most.length zl3,.slice zb4 r.sort.apart.length zl4,.slice none 0 0,.slice za7 r.hosts.length zk7,.int .i64 r.agent.roots,.slice za1 r.agent.nodes.length zk1,.slice za2 r.agent.sites.length zk2,.int .i64 r.agent.edges,.slice za4 r.agent.outer.length zk4,.slice za5 r.agent.inner.length zk5,.int .i64 r.count]:=hB2
  have hx4:=(hX.trans hHeld).own hgr (fun g hg=>by cases hg;omega)
  replace hC0:=hC0.grown CtlP.keepsO hgr (fun g hg=>by cases hg;omega)
  replace hC7:=hC7.grown StrP.keepsO hgr (fun g hg=>by cases hg;omega)
  replace hC8:=BigO.keepsO.grown hC8 hgr (fun g hg=>by cases hg;omega)
  have hSR:SrtO W3.heap.size y14.heap.size W4 [.slice zb0 r.sort.tops.length zl0,.slice zb1 r.sort.nest.length zl1,.slice zb2 r.sort.sorts.length zl2,.slice zb3 r.sort.most.length zl3,.slice zb4 r.sort.apart.length zl4] r.sort:=⟨_,_,_,_,_,lw10,up10,lw11,up11,lw12,up12,lw13,up13,lw14,up14,rfl,hC10.grown IntP.keepsO hgr (fun g hg=>by cases hg;omega),hC11.grown RowO.keepsO hgr (fun g hg=>by cases hg;omega),hC12.grown RowO.keepsO hgr (fun g hg=>by cases hg;omega),hC13.grown IntP.keepsO hgr (fun g hg=>by cases hg;omega),hC14.grown PairP.keepsO hgr (fun g hg=>by cases hg;omega),by refine ⟨?_,?_⟩ <;> simp [Off] <;> omega⟩
  replace hby:=(hby.ext hHeld).grown hgr (fun g hg=>by cases hg;omega)
  have f14:W3.heap.size≤y14.heap.size∧y14.heap.size≤W4.heap.size:=by omega
  obtain ⟨lw1,up1,f15,f16,f17,hSR⟩:∃l u,W3.heap.size≤l∧l≤u∧u≤W4.heap.size∧SrtO l u W4 [.slice zb0 r.sort.tops.length zl0,.slice zb1 r.sort.nest.length zl1,.slice zb2 r.sort.sorts.length zl2,.slice zb3 r.sort.most.length zl3,.slice zb4 r.sort.apart.length zl4] r.sort:=⟨_,_,Nat.le_refl _,f14.1,f14.2,hSR⟩
  clear hC10 hC11 hC12 hC13 hC14 E10 E11 E12 E13 E14 hBB s0 s1 s2 s3 s4
  obtain ⟨Rl,hRl⟩:∃Rl:Nat→Value→World→Prop,Rl=(fun i nv wr=>BoxAt wr B [.slice za0 r.sig.length zk0,.slice zb0 r.sort.tops.length zl0,.slice zb1 r.sort.nest.length zl1,.slice zb2 r.sort.sorts.length zl2,.slice zb3 r.sort.most.length zl3,.slice zb4 r.sort.apart.length zl4,nv,.slice za7 r.hosts.length zk7,.int .i64 r.agent.roots,.slice za1 r.agent.nodes.length zk1,.slice za2 r.agent.sites.length zk2,.int .i64 r.agent.edges,.slice za4 r.agent.outer.length zk4,.slice za5 r.agent.inner.length zk5,.int .i64 r.count]∧RowX 13 RulO 122 W4.heap.size wr.heap.size wr nv (r.rules.take i)∧CtlsO lw0 up0 wr (.slice za0 r.sig.length zk0) r.sig∧SrtO lw1 up1 wr [.slice zb0 r.sort.tops.length zl0,.slice zb1 r.sort.nest.length zl1,.slice zb2 r.sort.sorts.length zl2,.slice zb3 r.sort.most.length zl3,.slice zb4 r.sort.apart.length zl4] r.sort∧StrsO lw7 up7 wr (.slice za7 r.hosts.length zk7) r.hosts∧BigO lw8 up8 wr [.int .i64 r.agent.roots,.slice za1 r.agent.nodes.length zk1,.slice za2 r.agent.sites.length zk2,.int .i64 r.agent.edges,.slice za4 r.agent.outer.length zk4,.slice za5 r.agent.inner.length zk5] r.agent∧BoxAt wr (w.heap.size+1) [.slice none 0 0,.slice none 0 0,.slice none 0 0,.slice none 0 0,.slice none 0 0,.slice none 0 0,.slice none 0 0,.slice none 0 0,.int .i64 0,.slice none 0 0,.slice none 0 0,.int .i64 0,.slice none 0 0,.slice none 0 0,.int .i64 0]∧Ext W2 wr∧W4.heap.size≤wr.heap.size):=⟨_,rfl⟩
  have HRL:=Lib.hid hRl
  have hst0:Rl 0 (.slice none 0 0) W4:=by rw [hRl];exact ⟨hB2,RowX.nil (Nat.le_refl _),hC0,hSR,hC7,hC8,hby,hx4,Nat.le_refl _⟩
  clear hRl hX hHeld hgr
  have t6:=(hB2 6 _ rfl).1
  have t6':=hx4
  clear hB2 hC0 hSR hC7 hC8 hby
  have pk6:=hx4.keep pw6
  go_wp2
  go_loopw [41] (fun c wr=>∃(i:Nat) (nv:Value),c=.int .i64 i∧i≤r.rules.length∧Rl i nv wr) (fun c _=>r.rules.length - (intOf c).toNat)
  case atStart=>exact ⟨0,_,rfl,Nat.zero_le _,hst0⟩
  case round=>
   clear hst0 pk6 t6 t6'
   obtain ⟨i,nv,rfl,hi',hRi⟩:=hrel
   rw [HRL.out] at hRi
   obtain ⟨hBB,hrow,hC0,hSR,hC7,hC8,hRB,hx,hzr⟩:=hRi
   have hxw:=hx1.trans hx
   by_cases hlt:i<r.rules.length
   ·have HT:=Lib.hid (List.take_succ_eq_append_getElem hlt)
    have hwn:=wtL_mem wtRul r.rules r.rules[i] (List.getElem_mem hlt)
    have hwl:wtRul r.rules[i]=wtBig (r.rules[i]).redex+wtBig (r.rules[i]).reactum+(r.rules[i]).copies.length:=rfl
    have hln:(r.rules.take i).length<100000000:=by rw [List.length_take];omega
    rcases g4 with g4|⟨bn,on,rfl,nb1,nb2,g4⟩
    ·rw [g4] at hlt;simp at hlt
    obtain ⟨cs,hl,⟨c1,c2,cv,rfl,F1,F2,F3⟩,hc⟩:=g4 i hlt
    obtain ⟨_,_,_,_,rfl,_,_,⟨fa1,fk1,rfl,_⟩,⟨fa2,fk2,rfl,_⟩,⟨fa4,fk4,rfl,_⟩,⟨fa5,fk5,rfl,_⟩⟩:=id F1
    obtain ⟨_,_,_,_,rfl,_,_,⟨ga1,gk1,rfl,_⟩,⟨ga2,gk2,rfl,_⟩,⟨ga4,gk4,rfl,_⟩,⟨ga5,gk5,rfl,_⟩⟩:=id F2
    obtain ⟨fa9,fk9,rfl,_⟩:=id F3
    have q0:=hxw.keep (hc 0 _ rfl);have q1:=hxw.keep (hc 1 _ rfl);have q2:=hxw.keep (hc 2 _ rfl);have q3:=hxw.keep (hc 3 _ rfl);have q4:=hxw.keep (hc 4 _ rfl);have q5:=hxw.keep (hc 5 _ rfl);have q6:=hxw.keep (hc 6 _ rfl);have q7:=hxw.keep (hc 7 _ rfl);have q8:=hxw.keep (hc 8 _ rfl);have q9:=hxw.keep (hc 9 _ rfl);have q10:=hxw.keep (hc 10 _ rfl);have q11:=hxw.keep (hc 11 _ rfl);have q12:=hxw.keep (hc 12 _ rfl)
    rw [Nat.add_zero] at q0
    clear g4 hc
    obtain ⟨WD,hWD,hbd,hxd,hzd⟩:=box_facts wr [.int .i64 (r.rules[i]).redex.roots,.slice fa1 (r.rules[i]).redex.nodes.length fk1,.slice fa2 (r.rules[i]).redex.sites.length fk2,.int .i64 (r.rules[i]).redex.edges,.slice fa4 (r.rules[i]).redex.outer.length fk4,.slice fa5 (r.rules[i]).redex.inner.length fk5,.int .i64 (r.rules[i]).reactum.roots,.slice ga1 (r.rules[i]).reactum.nodes.length gk1,.slice ga2 (r.rules[i]).reactum.sites.length gk2,.int .i64 (r.rules[i]).reactum.edges,.slice ga4 (r.rules[i]).reactum.outer.length gk4,.slice ga5 (r.rules[i]).reactum.inner.length gk5,.slice fa9 (r.rules[i]).copies.length fk9] 122
    have d0:=(hbd 0 _ rfl).1;have d1:=(hbd 1 _ rfl).1;have d2:=(hbd 2 _ rfl).1;have d3:=(hbd 3 _ rfl).1;have d4:=(hbd 4 _ rfl).1;have d5:=(hbd 5 _ rfl).1;have d6:=(hbd 6 _ rfl).1;have d7:=(hbd 7 _ rfl).1;have d8:=(hbd 8 _ rfl).1;have d9:=(hbd 9 _ rfl).1;have d10:=(hbd 10 _ rfl).1;have d11:=(hbd 11 _ rfl).1;have d12:=(hbd 12 _ rfl).1
    have x6:=(hBB.ext hxd 6 _ rfl).1
    have hzd':wr.heap.size<WD.heap.size:=by omega
    replace F1:=BigP.keeps _ _ _ _ _ _ (Same.ext (hxw.trans hxd)) F1
    replace F2:=BigP.keeps _ _ _ _ _ _ (Same.ext (hxw.trans hxd)) F2
    replace F3:=SlV.ext IntP.keeps F3 (hxw.trans hxd)
    go_wp2_with fail
    (try rw [hWD])
    clear hzd hWD hbd q0 q1 q2 q3 q4 q5 q6 q7 q8 q9 q10 q11 q12
    refine region_till 13 (S:=(fun w'=>Ext WD w')) (by kernel_rfl) ?_ (fun hHeld=>?_)
    ·exact (Ext.refl WD).drew
    refine ttP 13 0 ?_ ?_ ?_;rotate_left;focus (intro w;go_simp;try with_reducible rfl)
    try simp only [Act.put,aput]
    refine ttY 13 1 ?_ ?_ ?_;rotate_left;focus (intro w hSw;(try dsimp only at hSw);have sd0:=Ext.keep hSw d0;have sd1:=Ext.keep hSw d1;have sd2:=Ext.keep hSw d2;have sd3:=Ext.keep hSw d3;have sd4:=Ext.keep hSw d4;have sd5:=Ext.keep hSw d5;have sd6:=Ext.keep hSw d6;have sd7:=Ext.keep hSw d7;have sd8:=Ext.keep hSw d8;have sd9:=Ext.keep hSw d9;have sd10:=Ext.keep hSw d10;have sd11:=Ext.keep hSw d11;have sd12:=Ext.keep hSw d12;have sx6:=Ext.keep hSw x6;go_simp;try with_reducible rfl)
    try simp only [Act.put,aput]
    refine ttP 13 2 ?_ ?_ ?_;rotate_left;focus (intro w;go_simp;try with_reducible rfl)
    try simp only [Act.put,aput]
    refine ttY 13 3 ?_ ?_ ?_;rotate_left;focus (intro w hSw;(try dsimp only at hSw);have sd0:=Ext.keep hSw d0;have sd1:=Ext.keep hSw d1;have sd2:=Ext.keep hSw d2;have sd3:=Ext.keep hSw d3;have sd4:=Ext.keep hSw d4;have sd5:=Ext.keep hSw d5;have sd6:=Ext.keep hSw d6;have sd7:=Ext.keep hSw d7;have sd8:=Ext.keep hSw d8;have sd9:=Ext.keep hSw d9;have sd10:=Ext.keep hSw d10;have sd11:=Ext.keep hSw d11;have sd12:=Ext.keep hSw d12;have sx6:=Ext.keep hSw x6;go_simp;try with_reducible rfl)
    try simp only [Act.put,aput]
    refine ttP 13 5 ?_ ?_ ?_;rotate_left;focus (intro w;go_simp;try with_reducible rfl)
    try simp only [Act.put,aput]
    refine ttY 13 6 ?_ ?_ ?_;rotate_left;focus (intro w hSw;(try dsimp only at hSw);have sd0:=Ext.keep hSw d0;have sd1:=Ext.keep hSw d1;have sd2:=Ext.keep hSw d2;have sd3:=Ext.keep hSw d3;have sd4:=Ext.keep hSw d4;have sd5:=Ext.keep hSw d5;have sd6:=Ext.keep hSw d6;have sd7:=Ext.keep hSw d7;have sd8:=Ext.keep hSw d8;have sd9:=Ext.keep hSw d9;have sd10:=Ext.keep hSw d10;have sd11:=Ext.keep hSw d11;have sd12:=Ext.keep hSw d12;have sx6:=Ext.keep hSw x6;go_simp;try with_reducible rfl)
    try simp only [Act.put,aput]
    refine ttP 13 8 ?_ ?_ ?_;rotate_left;focus (intro w;go_simp;try with_reducible rfl)
    try simp only [Act.put,aput]
    refine ttY 13 9 ?_ ?_ ?_;rotate_left;focus (intro w hSw;(try dsimp only at hSw);have sd0:=Ext.keep hSw d0;have sd1:=Ext.keep hSw d1;have sd2:=Ext.keep hSw d2;have sd3:=Ext.keep hSw d3;have sd4:=Ext.keep hSw d4;have sd5:=Ext.keep hSw d5;have sd6:=Ext.keep hSw d6;have sd7:=Ext.keep hSw d7;have sd8:=Ext.keep hSw d8;have sd9:=Ext.keep hSw d9;have sd10:=Ext.keep hSw d10;have sd11:=Ext.keep hSw d11;have sd12:=Ext.keep hSw d12;have sx6:=Ext.keep hSw x6;go_simp;try with_reducible rfl)
    try simp only [Act.put,aput]
    refine anyTill_ready (rs:=[4]) (by kernel_rfl) (by simp) ?_
    refine AllReadyT.cons rfl (by decide) (fun K hK=>?_) AllReadyT.nil
    (try simp only [aput])
    go_simp
    (go_at_call 135;refine (c_impl_ownBigraph lo hi _ (r.rules[i]).redex _ (BigP.keeps _ _ _ _ _ _ (Same.ext hHeld) F1) (by omega)).mono ?_;rintro e y20 ⟨c20,rfl,hC20,hb20⟩;have hz20:=Below.size hb20;obtain ⟨lw20,up20,m20,n20,o20,hC20⟩:=lie_bnd hC20 hz20;(try simp only [World.size_drew] at hz20 m20);obtain ⟨_,_,_,_,_,_,_,_,_,_,_,_,rfl,_,_,⟨va1,vk1,rfl,_⟩,⟨va2,vk2,rfl,_⟩,⟨va4,vk4,rfl,_⟩,⟨va5,vk5,rfl,_⟩,_⟩:=id hC20;(first|replace hC21:=BigO.keepsO.ext hC21 hb20|replace hC21:=BigO.keepsO.ext hC21 (hHeld.trans hb20)|skip);(first|replace hC22:=hC22.ext IntP.keepsO hb20|replace hC22:=hC22.ext IntP.keepsO (hHeld.trans hb20)|skip))
    show K _ _
    refine hK.out _ _ (by exact hHeld.trans hb20) (fun hHeld=>?_)
    clear hK K
    try simp only [Act.put,aput]
    refine anyTill_ready (rs:=[7]) (by kernel_rfl) (by simp) ?_
    refine AllReadyT.cons rfl (by decide) (fun K hK=>?_) AllReadyT.nil
    (try simp only [aput])
    go_simp
    (go_at_call 135;refine (c_impl_ownBigraph lo hi _ (r.rules[i]).reactum _ (BigP.keeps _ _ _ _ _ _ (Same.ext hHeld) F2) (by omega)).mono ?_;rintro e y21 ⟨c21,rfl,hC21,hb21⟩;have hz21:=Below.size hb21;obtain ⟨lw21,up21,m21,n21,o21,hC21⟩:=lie_bnd hC21 hz21;(try simp only [World.size_drew] at hz21 m21);obtain ⟨_,_,_,_,_,_,_,_,_,_,_,_,rfl,_,_,⟨wa1,wk1,rfl,_⟩,⟨wa2,wk2,rfl,_⟩,⟨wa4,wk4,rfl,_⟩,⟨wa5,wk5,rfl,_⟩,_⟩:=id hC21;(first|replace hC20:=BigO.keepsO.ext hC20 hb21|replace hC20:=BigO.keepsO.ext hC20 (hHeld.trans hb21)|skip);(first|replace hC22:=hC22.ext IntP.keepsO hb21|replace hC22:=hC22.ext IntP.keepsO (hHeld.trans hb21)|skip))
    show K _ _
    refine hK.out _ _ (by exact hHeld.trans hb21) (fun hHeld=>?_)
    clear hK K
    try simp only [Act.put,aput]
    refine anyTill_ready (rs:=[10]) (by kernel_rfl) (by simp) ?_
    refine AllReadyT.cons rfl (by decide) (fun K hK=>?_) AllReadyT.nil
    (try simp only [aput])
    go_simp
    (go_at_call 136;refine (c_slices_Clone_int_int lo hi _ (r.rules[i]).copies _ (F3.ext IntP.keeps hHeld) (by omega)).mono ?_;rintro e y22 ⟨c22,rfl,hC22,hb22⟩;have hz22:=Below.size hb22;obtain ⟨lw22,up22,m22,n22,o22,hC22⟩:=hC22.bnd hz22;(try simp only [World.size_drew] at hz22 m22);obtain ⟨va9,vk9,rfl,_⟩:=id hC22;(first|replace hC20:=BigO.keepsO.ext hC20 hb22|replace hC20:=BigO.keepsO.ext hC20 (hHeld.trans hb22)|skip);(first|replace hC21:=BigO.keepsO.ext hC21 hb22|replace hC21:=BigO.keepsO.ext hC21 (hHeld.trans hb22)|skip))
    show K _ _
    refine hK.out _ _ (by exact hHeld.trans hb22) (fun hHeld=>?_)
    clear hK K
    try simp only [Act.put,aput]
    refine ttP 13 11 ?_ ?_ ?_;rotate_left;focus (intro w;go_simp;try with_reducible rfl)
    try simp only [Act.put,aput]
    refine anyTill_ready (rs:=[12]) (by kernel_rfl) (by simp) ?_
    refine AllReadyT.cons rfl (by decide) (fun K hK=>?_) AllReadyT.nil
    (try simp only [aput])
    go_simp
    (refine alloc_box (cs:=[.int .i64 (r.rules[i]).redex.roots,.slice va1 (r.rules[i]).redex.nodes.length vk1,.slice va2 (r.rules[i]).redex.sites.length vk2,.int .i64 (r.rules[i]).redex.edges,.slice va4 (r.rules[i]).redex.outer.length vk4,.slice va5 (r.rules[i]).redex.inner.length vk5,.int .i64 (r.rules[i]).reactum.roots,.slice wa1 (r.rules[i]).reactum.nodes.length wk1,.slice wa2 (r.rules[i]).reactum.sites.length wk2,.int .i64 (r.rules[i]).reactum.edges,.slice wa4 (r.rules[i]).reactum.outer.length wk4,.slice wa5 (r.rules[i]).reactum.inner.length wk5,.slice va9 (r.rules[i]).copies.length vk9]) ?_;intro wS hbS hzS hSS;(first|replace hC20:=BigO.keepsO.ext hC20 hbS|replace hC20:=BigO.keepsO.ext hC20 (hHeld.trans hbS)|skip);(first|replace hC21:=BigO.keepsO.ext hC21 hbS|replace hC21:=BigO.keepsO.ext hC21 (hHeld.trans hbS)|skip);(first|replace hC22:=hC22.ext IntP.keepsO hbS|replace hC22:=hC22.ext IntP.keepsO (hHeld.trans hbS)|skip))
    show K _ _
    refine hK.out _ _ (by exact hHeld.trans hbS) (fun hHeld=>?_)
    clear hK K
    try simp only [Act.put,aput]
    refine anyTill_tail 13 [14,15] (by kernel_rfl) (by decide) (by decide) ?_
    simp only [picked,List.filterMap_cons,List.filterMap_nil,List.getElem?_toArray,List.getElem?_cons_succ,List.getElem?_cons_zero]
    show wpList _ _ _ [_,_,_] _ _
    have hyS:=hxd.trans hHeld
    have hrow2:=hrow.ext RulO.keepsO hyS
    have hBS:=hBB.ext hyS
    have hx2:=hx.trans hyS
    have hel:RulO WD.heap.size y22.heap.size wS [.int .i64 (r.rules[i]).redex.roots,.slice va1 (r.rules[i]).redex.nodes.length vk1,.slice va2 (r.rules[i]).redex.sites.length vk2,.int .i64 (r.rules[i]).redex.edges,.slice va4 (r.rules[i]).redex.outer.length vk4,.slice va5 (r.rules[i]).redex.inner.length vk5,.int .i64 (r.rules[i]).reactum.roots,.slice wa1 (r.rules[i]).reactum.nodes.length wk1,.slice wa2 (r.rules[i]).reactum.sites.length wk2,.int .i64 (r.rules[i]).reactum.edges,.slice wa4 (r.rules[i]).reactum.outer.length wk4,.slice wa5 (r.rules[i]).reactum.inner.length wk5,.slice va9 (r.rules[i]).copies.length vk9] r.rules[i]:=⟨[.int .i64 (r.rules[i]).redex.roots,.slice va1 (r.rules[i]).redex.nodes.length vk1,.slice va2 (r.rules[i]).redex.sites.length vk2,.int .i64 (r.rules[i]).redex.edges,.slice va4 (r.rules[i]).redex.outer.length vk4,.slice va5 (r.rules[i]).redex.inner.length vk5],[.int .i64 (r.rules[i]).reactum.roots,.slice wa1 (r.rules[i]).reactum.nodes.length wk1,.slice wa2 (r.rules[i]).reactum.sites.length wk2,.int .i64 (r.rules[i]).reactum.edges,.slice wa4 (r.rules[i]).reactum.outer.length wk4,.slice wa5 (r.rules[i]).reactum.inner.length wk5],_,lw20,up20,lw21,up21,lw22,up22,rfl,hC20,hC21,hC22,by refine ⟨?_,?_⟩ <;> simp [Off] <;> omega⟩
    have hsep:∀g,nv.ownBlock=some g→g<WD.heap.size∨y22.heap.size≤g:=fun g hg=>.inl (by have:=(hrow.block g hg).2;omega)
    have hne:∀g,nv.ownBlock=some g→g≠B:=fun g hg=>by have:=(hrow.block g hg).1;omega
    go_wp2_with (at_builtin;refine wpList_append_rowX RulO.keepsO rfl (.tmp 46) (.tmp 57) 40 rfl (W4.heap.size) (wr.heap.size) 122 i0 _ 248 Tryz.underlying40 hi0 hz0 hz1 hz2 rfl (by decide) _ _ (by rfl) (hrow2) ⟨y22.heap.size,0,none⟩ 1 [.int .i64 (r.rules[i]).redex.roots,.slice va1 (r.rules[i]).redex.nodes.length vk1,.slice va2 (r.rules[i]).redex.sites.length vk2,.int .i64 (r.rules[i]).redex.edges,.slice va4 (r.rules[i]).redex.outer.length vk4,.slice va5 (r.rules[i]).redex.inner.length vk5,.int .i64 (r.rules[i]).reactum.roots,.slice wa1 (r.rules[i]).reactum.nodes.length wk1,.slice wa2 (r.rules[i]).reactum.sites.length wk2,.int .i64 (r.rules[i]).reactum.edges,.slice wa4 (r.rules[i]).reactum.outer.length wk4,.slice wa5 (r.rules[i]).reactum.inner.length wk5,.slice va9 (r.rules[i]).copies.length vk9] rfl rfl (box_cells hSS) (by simp [Value.oneCell']) (WD.heap.size) (y22.heap.size) (by omega) (by omega) (by omega) (by first|omega|(simp <;> omega)) hsep r.rules[i] (hel)  (by first|omega|(simp <;> omega)) (by decide) (by first|omega|(simp <;> omega)) ?_;intro v3 w3 row3 ext3 gro3 own3;have hB3:=hBS.grown gro3 hne;obtain ⟨x3,xf3⟩:=hB3 6 _ rfl;obtain ⟨a3,n3,c3,rfl⟩:=row3.form3)
    have hzz:=gro3.size
    have hg3:∀g,nv.ownBlock=some g→W4.heap.size≤g:=fun g hg=>(hrow.block g hg).1
    go_roundw
    case rel=>
     refine ⟨i+1,.slice a3 n3 c3,rfl,by omega,?_⟩
     rw [HRL.out]
     refine ⟨hB3.set 6 _,?_,?_,?_,?_,?_,?_,?_,?_⟩
     ·rw [HT.out]
      exact (row3.set RulO.keepsO (by omega)).up (by simp) (by simp)
     ·exact ((hC0.ext CtlP.keepsO hyS).grown CtlP.keepsO gro3 (fun g hg=>by have:=hg3 g hg;omega)).set CtlP.keepsO (by omega)
     ·exact SrtO.keepsO.set (SrtO.keepsO.grown (SrtO.keepsO.ext hSR hyS) gro3 (fun g hg=>by have:=hg3 g hg;omega)) (by omega)
     ·exact ((hC7.ext StrP.keepsO hyS).grown StrP.keepsO gro3 (fun g hg=>by have:=hg3 g hg;omega)).set StrP.keepsO (by omega)
     ·exact BigO.keepsO.set (BigO.keepsO.grown (BigO.keepsO.ext hC8 hyS) gro3 (fun g hg=>by have:=hg3 g hg;omega)) (by omega)
     ·exact ((hRB.ext hyS).grown gro3 (fun g hg=>by have:=hg3 g hg;omega)).other (by omega)
     ·exact Xs (ext3 W2 hx2 (by omega)) (by show _≤B;omega)
     ·simp only [World.size_setCell];omega
    all_goals (simp only [intOf];omega)
   ·have e:i=r.rules.length:=by omega
    subst e
    rw [List.take_length] at hrow
    obtain ⟨na,nk,rfl,_⟩:=hrow.form
    have hNO:=hrow.toSlO (Nat.le_refl _)
    clear hrow
    go_upto_region 9 with fail
    refine wp_region_lit ?_
    refine wpList_load_box rfl 46 (.tmp 4) rfl B 0 [.slice za0 r.sig.length zk0,.slice zb0 r.sort.tops.length zl0,.slice zb1 r.sort.nest.length zl1,.slice zb2 r.sort.sorts.length zl2,.slice zb3 r.sort.most.length zl3,.slice zb4 r.sort.apart.length zl4,.slice na r.rules.length nk,.slice za7 r.hosts.length zk7,.int .i64 r.agent.roots,.slice za1 r.agent.nodes.length zk1,.slice za2 r.agent.sites.length zk2,.int .i64 r.agent.edges,.slice za4 r.agent.outer.length zk4,.slice za5 r.agent.inner.length zk5,.int .i64 r.count] _ rfl hBB (fun j v hj=>by simpa using hj) _ Tryz.underlying46 rfl infoRntN ?_
    simp only [Act.put,aput]
    refine wpList_store_box rfl 46 (.tmp 2) (.tmp 61) rfl (w.heap.size+1) 0 [.slice za0 r.sig.length zk0,.slice zb0 r.sort.tops.length zl0,.slice zb1 r.sort.nest.length zl1,.slice zb2 r.sort.sorts.length zl2,.slice zb3 r.sort.most.length zl3,.slice zb4 r.sort.apart.length zl4,.slice na r.rules.length nk,.slice za7 r.hosts.length zk7,.int .i64 r.agent.roots,.slice za1 r.agent.nodes.length zk1,.slice za2 r.agent.sites.length zk2,.int .i64 r.agent.edges,.slice za4 r.agent.outer.length zk4,.slice za5 r.agent.inner.length zk5,.int .i64 r.count] _ rfl rfl hRB (by simp) infoRntN (by simp [Value.oneCell']) ?_
    intro W5 hB5 hgr hsz5
    replace hB5:BoxAt W5 (w.heap.size+1) [.slice za0 r.sig.length zk0,.slice zb0 r.sort.tops.length zl0,.slice zb1 r.sort.nest.length zl1,.slice zb2 r.sort.sorts.length zl2,.slice zb3 r.sort.most.length zl3,.slice zb4 r.sort.apart.length zl4,.slice na r.rules.length nk,.slice za7 r.hosts.length zk7,.int .i64 r.agent.roots,.slice za1 r.agent.nodes.length zk1,.slice za2 r.agent.sites.length zk2,.int .i64 r.agent.edges,.slice za4 r.agent.outer.length zk4,.slice za5 r.agent.inner.length zk5,.int .i64 r.count]:=hB5
    have z0:=(hB5 0 _ rfl).1;have z1:=(hB5 1 _ rfl).1;have z2:=(hB5 2 _ rfl).1;have z3:=(hB5 3 _ rfl).1;have z4:=(hB5 4 _ rfl).1;have z5:=(hB5 5 _ rfl).1;have z6:=(hB5 6 _ rfl).1;have z7:=(hB5 7 _ rfl).1;have z8:=(hB5 8 _ rfl).1;have z9:=(hB5 9 _ rfl).1;have z10:=(hB5 10 _ rfl).1;have z11:=(hB5 11 _ rfl).1;have z12:=(hB5 12 _ rfl).1;have z13:=(hB5 13 _ rfl).1;have z14:=(hB5 14 _ rfl).1
    have hx5:=hxw.own hgr (fun g hg=>by cases hg;omega)
    refine wpList_nil ?_
    go_wp2_with fail
    refine bodyPost_ret (v:=.agg #[.slice za0 r.sig.length zk0,.slice zb0 r.sort.tops.length zl0,.slice zb1 r.sort.nest.length zl1,.slice zb2 r.sort.sorts.length zl2,.slice zb3 r.sort.most.length zl3,.slice zb4 r.sort.apart.length zl4,.slice na r.rules.length nk,.slice za7 r.hosts.length zk7,.int .i64 r.agent.roots,.slice za1 r.agent.nodes.length zk1,.slice za2 r.agent.sites.length zk2,.int .i64 r.agent.edges,.slice za4 r.agent.outer.length zk4,.slice za5 r.agent.inner.length zk5,.int .i64 r.count]) ?_ rfl ⟨[.slice za0 r.sig.length zk0,.slice zb0 r.sort.tops.length zl0,.slice zb1 r.sort.nest.length zl1,.slice zb2 r.sort.sorts.length zl2,.slice zb3 r.sort.most.length zl3,.slice zb4 r.sort.apart.length zl4,.slice na r.rules.length nk,.slice za7 r.hosts.length zk7,.int .i64 r.agent.roots,.slice za1 r.agent.nodes.length zk1,.slice za2 r.agent.sites.length zk2,.int .i64 r.agent.edges,.slice za4 r.agent.outer.length zk4,.slice za5 r.agent.inner.length zk5,.int .i64 r.count],rfl,?_,hx5⟩
    ·simp [results,Tryz.results79,go_sem,z0,z1,z2,z3,z4,z5,z6,z7,z8,z9,z10,z11,z12,z13,z14]
    ·refine ⟨_,[.slice zb0 r.sort.tops.length zl0,.slice zb1 r.sort.nest.length zl1,.slice zb2 r.sort.sorts.length zl2,.slice zb3 r.sort.most.length zl3,.slice zb4 r.sort.apart.length zl4],_,_,[.int .i64 r.agent.roots,.slice za1 r.agent.nodes.length zk1,.slice za2 r.agent.sites.length zk2,.int .i64 r.agent.edges,.slice za4 r.agent.outer.length zk4,.slice za5 r.agent.inner.length zk5],lw0,up0,lw1,up1,W4.heap.size,wr.heap.size,lw7,up7,lw8,up8,rfl,?_,?_,?_,?_,?_,Ec,?_⟩
     ·exact hC0.grown CtlP.keepsO hgr (fun g hg=>by cases hg;omega)
     ·exact SrtO.keepsO.grown hSR hgr (fun g hg=>by cases hg;omega)
     ·exact hNO.grown RulO.keepsO hgr (fun g hg=>by cases hg;omega)
     ·exact hC7.grown StrP.keepsO hgr (fun g hg=>by cases hg;omega)
     ·exact BigO.keepsO.grown hC8 hgr (fun g hg=>by cases hg;omega)
     ·refine ⟨?_,?_⟩ <;> simp [Off] <;> omega
end Go.Proofs.YtccjepndhlobpaaGreatDoor
