/-
  Walks: HostOf.
-/
import Derived.Test.YtccjepndhlobpaaGreatDoorCA
import Derived.Deep.RegionWith
import Derived.Deep.DrawnRows
import Derived.Deep.RegionHeld3
import Derived.Deep.DeepMust
namespace Go.Proofs.YtccjepndhlobpaaGreatDoor
open Go.RowKit
set_option linter.unusedVariables false
set_option linter.unusedSimpArgs false
theorem rntB_parts {r:Rnt} (h:rntB r=true):sortB r.sig r.sort=true∧rulesB r.sig r.rules=true∧hostsB r.hosts=true∧inR r.count 0 1000=true∧agentB r.sig r.agent=true∧r.agent.roots=(r.hosts.length:Int)∧(faultsL r.sort r.agent).isEmpty=true:=by
 unfold rntB at h
 simp only [Bool.and_eq_true,decide_eq_true_eq] at h
 obtain ⟨⟨a,b,c,d⟩,e,f,g⟩:=h
 exact ⟨a,b,c,d,e,f,g⟩
theorem rntB_big {r:Rnt} (h:rntB r=true):bigB r.sig r.agent=true:=agentB_big (rntB_parts h).2.2.2.2.1
/-- The host of a node. -/
def hostK (r:Rnt) (n:Int):Nat:=(-1 - topB r.agent n).toNat
def hostS (r:Rnt) (n:Int):ByteArray:=if (rntB r && isNd r.agent n)=true then r.hosts.getD (hostK r n) ⟨#[]⟩ else ⟨#[]⟩
theorem hostK_le {r:Rnt} (h:rntB r=true) (m:Nat) (hm:m<r.agent.nodes.length) : -1 - topB r.agent (m:Int)=(hostK r m:Int)∧hostK r m<r.hosts.length:=by
 have hb:=rntB_big h
 have hr:=(rntB_parts h).2.2.2.2.2.1
 have h4:=inR_le (headB_parts (bigB_parts hb).1).2.1
 have:=topB_le hb (m+1) m (by omega) (by omega) (by omega)
 unfold hostK
 omega
theorem hostS_yes {r:Rnt} (h:rntB r=true) (m:Nat) (hm:m<r.agent.nodes.length) (hn:isNd r.agent m=true) (hk:hostK r m<r.hosts.length):hostS r m=r.hosts[hostK r m]:=by
 unfold hostS
 rw [if_pos (by rw [h,hn];rfl),List.getD_eq_getElem?_getD,List.getElem?_eq_getElem hk];rfl
theorem host_at {r:Rnt} (h:rntB r=true) (m:Nat) (hm:m<r.agent.nodes.length) (hn:isNd r.agent m=true):∃(q:Nat) (hq:q<r.hosts.length),-1 - topB r.agent (m:Int)=(q:Int)∧hostS r m=r.hosts[q]:=
 ⟨hostK r m,(hostK_le h m hm).2,(hostK_le h m hm).1,hostS_yes h m hm hn _⟩
theorem hostS_no {r:Rnt} {n:Int} (h:(rntB r && isNd r.agent n)=false):hostS r n=⟨#[]⟩:=by
 unfold hostS;rw [if_neg (by rw [h];decide)]
attribute [local irreducible] inR topB ancL bigB rntB isNd hostK hostS
set_option maxRecDepth 100000 in
set_option maxHeartbeats 3200000 in
theorem c_spec_HostOf (lo hi:Nat) (cs:List Value) (r:Rnt) (n:Int) (w:World) (h:RntP lo hi w cs r) (hwt:wtRnt r≤1048576) :
 Calls Tryz.prog 14 #[.agg cs.toArray,.int .i64 n] w fun e w'=>e=.returned (.tuple #[.string (hostS r n),.bool (rntB r && isNd r.agent n)])∧Ext w w':=by
 have HH:=h
 obtain ⟨v0,cc1,v6,v7,cc8,rfl,e0,E1,e6,e7,E8,ec⟩:=h
 obtain ⟨s0,s1,s2,s3,s4,rfl,_⟩:=id E1
 obtain ⟨y1,y2,y4,y5,rfl,_⟩:=id E8
 obtain ⟨ha,hk,rfl,g1,g2,g3,g4⟩:=id e7
 unfold maxLen at g2
 clear e0 E1 e6 ec
 change Calls Tryz.prog 14 #[.agg #[v0,s0,s1,s2,s3,s4,v6,.slice ha r.hosts.length hk,.int .i64 r.agent.roots,y1,y2,.int .i64 r.agent.edges,y4,y5,.int .i64 r.count],.int .i64 n] w _
 obtain ⟨W0,hW0,hbx,hx0,hz⟩:=box_facts w [v0,s0,s1,s2,s3,s4,v6,.slice ha r.hosts.length hk,.int .i64 r.agent.roots,y1,y2,.int .i64 r.agent.edges,y4,y5,.int .i64 r.count] 46
 have p0:=(hbx 0 _ rfl).1
 have p1:=(hbx 1 _ rfl).1
 have p2:=(hbx 2 _ rfl).1
 have p3:=(hbx 3 _ rfl).1
 have p4:=(hbx 4 _ rfl).1
 have p5:=(hbx 5 _ rfl).1
 have p6:=(hbx 6 _ rfl).1
 have p7:=(hbx 7 _ rfl).1
 have p8:=(hbx 8 _ rfl).1
 have p9:=(hbx 9 _ rfl).1
 have p10:=(hbx 10 _ rfl).1
 have p11:=(hbx 11 _ rfl).1
 have p12:=(hbx 12 _ rfl).1
 have p13:=(hbx 13 _ rfl).1
 have p14:=(hbx 14 _ rfl).1
 have hzz:w.heap.size<W0.heap.size:=by omega
 clear hz hbx
 replace HH:=RntP.keeps _ _ _ _ _ _ (Same.ext hx0) HH
 replace E8:=BigP.keeps _ _ _ _ _ _ (Same.ext hx0) E8
 go_enter Tryz.func14,Tryz.ntmps14
 have Hb:=Lib.hid trivial
 cases ha:rntB r
 have Ha:=Lib.hid ha;clear ha
 have isF:=trivial
 rotate_left
 have Ha:=Lib.hid ha;clear ha
 cases hb:isNd r.agent n
 have Hb:=Lib.hid hb;clear hb
 have isF:=trivial
 rotate_left
 have Hb:=Lib.hid hb;clear hb
 all_goals go_wp2_with (first|(go_at_call 61;(refine (c_spec_l2Is lo hi _ r.agent n _ E8).mono ?_);rintro e y ⟨rfl,hb⟩;rw [Hb.out];replace p0:=Ext.keep hb p0;replace p1:=Ext.keep hb p1;replace p2:=Ext.keep hb p2;replace p3:=Ext.keep hb p3;replace p4:=Ext.keep hb p4;replace p5:=Ext.keep hb p5;replace p6:=Ext.keep hb p6;replace p7:=Ext.keep hb p7;replace p8:=Ext.keep hb p8;replace p9:=Ext.keep hb p9;replace p10:=Ext.keep hb p10;replace p11:=Ext.keep hb p11;replace p12:=Ext.keep hb p12;replace p13:=Ext.keep hb p13;replace p14:=Ext.keep hb p14;replace HH:=RntP.keeps _ _ _ _ _ _ (Same.ext hb) HH;replace E8:=BigP.keeps _ _ _ _ _ _ (Same.ext hb) E8)|(go_at_call 51;(refine (c_spec_l13Good lo hi _ r _ HH hwt).mono ?_);rintro e y ⟨rfl,hb⟩;rw [Ha.out];replace p0:=Ext.keep hb p0;replace p1:=Ext.keep hb p1;replace p2:=Ext.keep hb p2;replace p3:=Ext.keep hb p3;replace p4:=Ext.keep hb p4;replace p5:=Ext.keep hb p5;replace p6:=Ext.keep hb p6;replace p7:=Ext.keep hb p7;replace p8:=Ext.keep hb p8;replace p9:=Ext.keep hb p9;replace p10:=Ext.keep hb p10;replace p11:=Ext.keep hb p11;replace p12:=Ext.keep hb p12;replace p13:=Ext.keep hb p13;replace p14:=Ext.keep hb p14;replace HH:=RntP.keeps _ _ _ _ _ _ (Same.ext hb) HH;replace E8:=BigP.keeps _ _ _ _ _ _ (Same.ext hb) E8))
 all_goals first|(have:=isF;go_ret2;exact ⟨by rw [hostS_no (by simp [Ha.out,Hb.out])];rfl,xw⟩)|skip
 have HBB:=Lib.hid (rntB_big Ha.out)
 obtain ⟨m,rfl,hm⟩:=isNd_nat Hb.out
 obtain ⟨q,j2,j1,hY⟩:=host_at Ha.out m hm Hb.out
 have HY:=Lib.hid hY
 clear hY
 have hl4:r.hosts.length≤4:=by have h1:=(rntB_parts Ha.out).2.2.1;unfold hostsB at h1;simp at h1;exact h1.2
 have j3:(0:Int)≤(q:Int):=by omega
 have j4:(q:Int)<(r.hosts.length:Int):=by omega
 have j5:(q:Int)≤(hk:Int):=by omega
 have j6:IntKind.i64.wrap (q:Int)=(q:Int):=IntWalk.i64_in _ (by omega)
 have hX:Ext w y:=xw
 rcases g4 with g4|⟨bn,on,rfl,nb1,nb2,g4⟩
 ·rw [g4] at j2;simp at j2
 obtain ⟨cs,hl,⟨rfl,e1⟩,hc⟩:=g4 q j2
 have q0:=hX.keep (hc 0 _ rfl)
 rw [Nat.mul_one,Nat.add_zero] at q0
 rw [← HY.out] at q0
 clear hc g4 hl e1
 have hXB:=Ext.refl y
 refine wp_region_held_drew (S:=(fun w'=>Ext y w')) (by kernel_rfl) ?_ (fun hHeld=>?_)
 ·exact (Ext.refl y).drew
 refine tkP 0 ?_ ?_ ?_;rotate_left;focus (intro w;go_simp;try with_reducible rfl)
 try simp only [Act.put,aput]
 refine tkY 1 ?_ ?_ ?_;rotate_left;focus (intro w hSw;(try dsimp only at hSw);have sp0:=Ext.keep hSw p0;have sp1:=Ext.keep hSw p1;have sp2:=Ext.keep hSw p2;have sp3:=Ext.keep hSw p3;have sp4:=Ext.keep hSw p4;have sp5:=Ext.keep hSw p5;have sp6:=Ext.keep hSw p6;have sp7:=Ext.keep hSw p7;have sp8:=Ext.keep hSw p8;have sp9:=Ext.keep hSw p9;have sp10:=Ext.keep hSw p10;have sp11:=Ext.keep hSw p11;have sp12:=Ext.keep hSw p12;have sp13:=Ext.keep hSw p13;have sp14:=Ext.keep hSw p14;have sq0:=Ext.keep hSw q0;go_simp;try with_reducible rfl)
 try simp only [Act.put,aput]
 refine tkP 2 ?_ ?_ ?_;rotate_left;focus (intro w;go_simp;try with_reducible rfl)
 try simp only [Act.put,aput]
 refine tkY 3 ?_ ?_ ?_;rotate_left;focus (intro w hSw;(try dsimp only at hSw);have sp0:=Ext.keep hSw p0;have sp1:=Ext.keep hSw p1;have sp2:=Ext.keep hSw p2;have sp3:=Ext.keep hSw p3;have sp4:=Ext.keep hSw p4;have sp5:=Ext.keep hSw p5;have sp6:=Ext.keep hSw p6;have sp7:=Ext.keep hSw p7;have sp8:=Ext.keep hSw p8;have sp9:=Ext.keep hSw p9;have sp10:=Ext.keep hSw p10;have sp11:=Ext.keep hSw p11;have sp12:=Ext.keep hSw p12;have sp13:=Ext.keep hSw p13;have sp14:=Ext.keep hSw p14;have sq0:=Ext.keep hSw q0;go_simp;try with_reducible rfl)
 try simp only [Act.put,aput]
 refine tkP 4 ?_ ?_ ?_;rotate_left;focus (intro w;go_simp;try with_reducible rfl)
 try simp only [Act.put,aput]
 refine wpAnyH_ready (rs:=[5]) (by kernel_rfl) (by simp) ?_
 refine AllReadyH.cons rfl (fun K hK=>?_) AllReadyH.nil
 (try simp only [aput])
 go_simp
 (go_at_call 62;refine (c_spec_l3Top lo hi _ _ r.sig _ _ (BigP.keeps _ _ _ _ _ _ (Same.ext (hXB.trans hHeld)) E8) HBB.out (by omega)).mono ?_;rintro e y ⟨rfl,hb⟩)
 show K _ _
 refine hK.out _ _ (by exact hHeld.trans hb) (fun hHeld=>?_)
 clear hK K
 try simp only [Act.put,aput]
 refine tkP 6 ?_ ?_ ?_;rotate_left;focus (intro w;go_simp;try with_reducible rfl)
 try simp only [Act.put,aput]
 refine tkP 7 ?_ ?_ ?_;rotate_left;focus (intro w;go_simp;try with_reducible rfl)
 try simp only [Act.put,aput]
 refine tkY 8 ?_ ?_ ?_;rotate_left;focus (intro w hSw;(try dsimp only at hSw);have sp0:=Ext.keep hSw p0;have sp1:=Ext.keep hSw p1;have sp2:=Ext.keep hSw p2;have sp3:=Ext.keep hSw p3;have sp4:=Ext.keep hSw p4;have sp5:=Ext.keep hSw p5;have sp6:=Ext.keep hSw p6;have sp7:=Ext.keep hSw p7;have sp8:=Ext.keep hSw p8;have sp9:=Ext.keep hSw p9;have sp10:=Ext.keep hSw p10;have sp11:=Ext.keep hSw p11;have sp12:=Ext.keep hSw p12;have sp13:=Ext.keep hSw p13;have sp14:=Ext.keep hSw p14;have sq0:=Ext.keep hSw q0;go_simp;try with_reducible rfl)
 try simp only [Act.put,aput]
 refine tkP 9 ?_ ?_ ?_;rotate_left;focus (intro w;go_simp;try with_reducible rfl)
 try simp only [Act.put,aput]
 refine tkP 10 ?_ ?_ ?_;rotate_left;focus (intro w;go_simp;try with_reducible rfl)
 try simp only [Act.put,aput]
 refine wpAnyH_done (by kernel_rfl) ?_ _
 all_goals go_wp2
 all_goals go_ret2
 all_goals exact ⟨by first|rfl|(simp only [Ha.out,Hb.out];rfl),hX.trans hHeld⟩
set_option maxRecDepth 100000 in
set_option maxHeartbeats 3200000 in
theorem c_impl_HostOf (lo hi:Nat) (cs:List Value) (r:Rnt) (n:Int) (w:World) (h:RntP lo hi w cs r) (hwt:wtRnt r≤1048576) :
 Calls Tryz.prog 15 #[.agg cs.toArray,.int .i64 n] w fun e w'=>e=.returned (.tuple #[.string (hostS r n),.bool (rntB r && isNd r.agent n)])∧Ext w w':=by
 have HH:=h
 obtain ⟨v0,cc1,v6,v7,cc8,rfl,e0,E1,e6,e7,E8,ec⟩:=h
 obtain ⟨s0,s1,s2,s3,s4,rfl,_⟩:=id E1
 obtain ⟨y1,y2,y4,y5,rfl,_⟩:=id E8
 obtain ⟨ha,hk,rfl,g1,g2,g3,g4⟩:=id e7
 unfold maxLen at g2
 clear e0 E1 e6 ec
 change Calls Tryz.prog 15 #[.agg #[v0,s0,s1,s2,s3,s4,v6,.slice ha r.hosts.length hk,.int .i64 r.agent.roots,y1,y2,.int .i64 r.agent.edges,y4,y5,.int .i64 r.count],.int .i64 n] w _
 obtain ⟨W0,hW0,hbx,hx0,hz⟩:=box_facts w [v0,s0,s1,s2,s3,s4,v6,.slice ha r.hosts.length hk,.int .i64 r.agent.roots,y1,y2,.int .i64 r.agent.edges,y4,y5,.int .i64 r.count] 46
 have p0:=(hbx 0 _ rfl).1
 have p1:=(hbx 1 _ rfl).1
 have p2:=(hbx 2 _ rfl).1
 have p3:=(hbx 3 _ rfl).1
 have p4:=(hbx 4 _ rfl).1
 have p5:=(hbx 5 _ rfl).1
 have p6:=(hbx 6 _ rfl).1
 have p7:=(hbx 7 _ rfl).1
 have p8:=(hbx 8 _ rfl).1
 have p9:=(hbx 9 _ rfl).1
 have p10:=(hbx 10 _ rfl).1
 have p11:=(hbx 11 _ rfl).1
 have p12:=(hbx 12 _ rfl).1
 have p13:=(hbx 13 _ rfl).1
 have p14:=(hbx 14 _ rfl).1
 have hzz:w.heap.size<W0.heap.size:=by omega
 clear hz hbx
 replace HH:=RntP.keeps _ _ _ _ _ _ (Same.ext hx0) HH
 replace E8:=BigP.keeps _ _ _ _ _ _ (Same.ext hx0) E8
 go_enter Tryz.func15,Tryz.ntmps15
 have Hb:=Lib.hid trivial
 cases ha:rntB r
 have Ha:=Lib.hid ha;clear ha
 have isF:=trivial
 rotate_left
 have Ha:=Lib.hid ha;clear ha
 cases hb:isNd r.agent n
 have Hb:=Lib.hid hb;clear hb
 have isF:=trivial
 rotate_left
 have Hb:=Lib.hid hb;clear hb
 all_goals go_wp2_with (first|(go_at_call 63;(refine (c_impl_Bigraph_isNode lo hi _ r.agent n _ E8).mono ?_);rintro e y ⟨rfl,hb⟩;rw [Hb.out];replace p0:=Ext.keep hb p0;replace p1:=Ext.keep hb p1;replace p2:=Ext.keep hb p2;replace p3:=Ext.keep hb p3;replace p4:=Ext.keep hb p4;replace p5:=Ext.keep hb p5;replace p6:=Ext.keep hb p6;replace p7:=Ext.keep hb p7;replace p8:=Ext.keep hb p8;replace p9:=Ext.keep hb p9;replace p10:=Ext.keep hb p10;replace p11:=Ext.keep hb p11;replace p12:=Ext.keep hb p12;replace p13:=Ext.keep hb p13;replace p14:=Ext.keep hb p14;replace HH:=RntP.keeps _ _ _ _ _ _ (Same.ext hb) HH;replace E8:=BigP.keeps _ _ _ _ _ _ (Same.ext hb) E8)|(go_at_call 12;(refine (c_impl_IsRuntime lo hi _ r _ HH hwt).mono ?_);rintro e y ⟨rfl,hb⟩;rw [Ha.out];replace p0:=Ext.keep hb p0;replace p1:=Ext.keep hb p1;replace p2:=Ext.keep hb p2;replace p3:=Ext.keep hb p3;replace p4:=Ext.keep hb p4;replace p5:=Ext.keep hb p5;replace p6:=Ext.keep hb p6;replace p7:=Ext.keep hb p7;replace p8:=Ext.keep hb p8;replace p9:=Ext.keep hb p9;replace p10:=Ext.keep hb p10;replace p11:=Ext.keep hb p11;replace p12:=Ext.keep hb p12;replace p13:=Ext.keep hb p13;replace p14:=Ext.keep hb p14;replace HH:=RntP.keeps _ _ _ _ _ _ (Same.ext hb) HH;replace E8:=BigP.keeps _ _ _ _ _ _ (Same.ext hb) E8))
 all_goals first|(have:=isF;go_ret2;exact ⟨by rw [hostS_no (by simp [Ha.out,Hb.out])];rfl,xw⟩)|skip
 have HBB:=Lib.hid (rntB_big Ha.out)
 obtain ⟨m,rfl,hm⟩:=isNd_nat Hb.out
 obtain ⟨q,j2,j1,hY⟩:=host_at Ha.out m hm Hb.out
 have HY:=Lib.hid hY
 clear hY
 have hl4:r.hosts.length≤4:=by have h1:=(rntB_parts Ha.out).2.2.1;unfold hostsB at h1;simp at h1;exact h1.2
 have j3:(0:Int)≤(q:Int):=by omega
 have j4:(q:Int)<(r.hosts.length:Int):=by omega
 have j5:(q:Int)≤(hk:Int):=by omega
 have j6:IntKind.i64.wrap (q:Int)=(q:Int):=IntWalk.i64_in _ (by omega)
 have hX:Ext w y:=xw
 rcases g4 with g4|⟨bn,on,rfl,nb1,nb2,g4⟩
 ·rw [g4] at j2;simp at j2
 obtain ⟨cs,hl,⟨rfl,e1⟩,hc⟩:=g4 q j2
 have q0:=hX.keep (hc 0 _ rfl)
 rw [Nat.mul_one,Nat.add_zero] at q0
 rw [← HY.out] at q0
 clear hc g4 hl e1
 have hXB:=Ext.refl y
 refine wp_region_held_drew (S:=(fun w'=>Ext y w')) (by kernel_rfl) ?_ (fun hHeld=>?_)
 ·exact (Ext.refl y).drew
 refine tkP 0 ?_ ?_ ?_;rotate_left;focus (intro w;go_simp;try with_reducible rfl)
 try simp only [Act.put,aput]
 refine tkY 1 ?_ ?_ ?_;rotate_left;focus (intro w hSw;(try dsimp only at hSw);have sp0:=Ext.keep hSw p0;have sp1:=Ext.keep hSw p1;have sp2:=Ext.keep hSw p2;have sp3:=Ext.keep hSw p3;have sp4:=Ext.keep hSw p4;have sp5:=Ext.keep hSw p5;have sp6:=Ext.keep hSw p6;have sp7:=Ext.keep hSw p7;have sp8:=Ext.keep hSw p8;have sp9:=Ext.keep hSw p9;have sp10:=Ext.keep hSw p10;have sp11:=Ext.keep hSw p11;have sp12:=Ext.keep hSw p12;have sp13:=Ext.keep hSw p13;have sp14:=Ext.keep hSw p14;have sq0:=Ext.keep hSw q0;go_simp;try with_reducible rfl)
 try simp only [Act.put,aput]
 refine tkY 2 ?_ ?_ ?_;rotate_left;focus (intro w hSw;(try dsimp only at hSw);have sp0:=Ext.keep hSw p0;have sp1:=Ext.keep hSw p1;have sp2:=Ext.keep hSw p2;have sp3:=Ext.keep hSw p3;have sp4:=Ext.keep hSw p4;have sp5:=Ext.keep hSw p5;have sp6:=Ext.keep hSw p6;have sp7:=Ext.keep hSw p7;have sp8:=Ext.keep hSw p8;have sp9:=Ext.keep hSw p9;have sp10:=Ext.keep hSw p10;have sp11:=Ext.keep hSw p11;have sp12:=Ext.keep hSw p12;have sp13:=Ext.keep hSw p13;have sp14:=Ext.keep hSw p14;have sq0:=Ext.keep hSw q0;go_simp;try with_reducible rfl)
 try simp only [Act.put,aput]
 refine tkP 3 ?_ ?_ ?_;rotate_left;focus (intro w;go_simp;try with_reducible rfl)
 try simp only [Act.put,aput]
 refine wpAnyH_ready (rs:=[4]) (by kernel_rfl) (by simp) ?_
 refine AllReadyH.cons rfl (fun K hK=>?_) AllReadyH.nil
 (try simp only [aput])
 go_simp
 (go_at_call 64;refine (c_impl_Runtime_hostOf lo hi _ r r.sig m _ (RntP.keeps _ _ _ _ _ _ (Same.ext (hXB.trans hHeld)) HH) HBB.out (by omega)).mono ?_;rintro e y ⟨rfl,hb⟩;rw [j1])
 show K _ _
 refine hK.out _ _ (by exact hHeld.trans hb) (fun hHeld=>?_)
 clear hK K
 try simp only [Act.put,aput]
 refine tkP 5 ?_ ?_ ?_;rotate_left;focus (intro w;go_simp;try with_reducible rfl)
 try simp only [Act.put,aput]
 refine tkY 6 ?_ ?_ ?_;rotate_left;focus (intro w hSw;(try dsimp only at hSw);have sp0:=Ext.keep hSw p0;have sp1:=Ext.keep hSw p1;have sp2:=Ext.keep hSw p2;have sp3:=Ext.keep hSw p3;have sp4:=Ext.keep hSw p4;have sp5:=Ext.keep hSw p5;have sp6:=Ext.keep hSw p6;have sp7:=Ext.keep hSw p7;have sp8:=Ext.keep hSw p8;have sp9:=Ext.keep hSw p9;have sp10:=Ext.keep hSw p10;have sp11:=Ext.keep hSw p11;have sp12:=Ext.keep hSw p12;have sp13:=Ext.keep hSw p13;have sp14:=Ext.keep hSw p14;have sq0:=Ext.keep hSw q0;go_simp;try with_reducible rfl)
 try simp only [Act.put,aput]
 refine tkP 7 ?_ ?_ ?_;rotate_left;focus (intro w;go_simp;try with_reducible rfl)
 try simp only [Act.put,aput]
 refine tkP 8 ?_ ?_ ?_;rotate_left;focus (intro w;go_simp;try with_reducible rfl)
 try simp only [Act.put,aput]
 refine wpAnyH_done (by kernel_rfl) ?_ _
 all_goals go_wp2
 all_goals go_ret2
 all_goals exact ⟨by first|rfl|(simp only [Ha.out,Hb.out];rfl),hX.trans hHeld⟩
end Go.Proofs.YtccjepndhlobpaaGreatDoor
