/-
  Walks: logs and consoles weighed, copied, compared.
-/
import Derived.Test.YtccjepndhlobpaaGreatDoorS1
import Derived.Test.YtccjepndhlobpaaGreatDoorS2
import Derived.Test.YtccjepndhlobpaaGreatDoorS3
import Derived.Test.YtccjepndhlobpaaGreatDoorB0
import Derived.Test.YtccjepndhlobpaaGreatDoorB2
import Derived.Test.YtccjepndhlobpaaGreatDoorC1
import Derived.Deep.Cut
namespace Go.Proofs.YtccjepndhlobpaaGreatDoor
open Go.RowKit
set_option linter.unusedVariables false
set_option linter.unusedSimpArgs false
theorem grown_stay {w w':World} {g b o:Nat} {v:Value} (hg:w.grownBy w' (some g)) (hc:w.cell? ⟨b,o,none⟩=some v) (hne:b≠g):w'.cell? ⟨b,o,none⟩=some v:=
 (World.cell?_of_block (hg.block b (World.block_lt_of_cell? w ⟨b,o,none⟩ hc) (by simp;omega))).trans hc

set_option maxRecDepth 100000 in
theorem kLg_szLog (lo hi:Nat) (cs:List Value) (x:Lg) (left:Int) (w:World) (h:LgP lo hi w cs x) (hl:0≤left) (hl1:left≤1048576) :
 Calls Tryz.prog 95 #[.agg cs.toArray,.int .i64 left] w fun e w'=>e=.returned (.int .i64 (szR (wtLg x) left))∧Ext w w':=by
 obtain ⟨rfl,e1,e2,e3⟩:=h
 unfold maxLen at e1 e2
 have hw:wtLg x=x.durable.size+x.pending.size:=rfl
 by_cases h1:(x.durable.size:Int)≤left
 ·by_cases h2:(x.pending.size:Int)≤left - x.durable.size
  ·go_enter Tryz.func95,Tryz.ntmps95
   go_wp2
   go_ret
   exact ⟨ret_int (by rw [szR_pos (by omega)];omega),xw⟩
  ·go_enter Tryz.func95,Tryz.ntmps95
   go_wp2
   go_ret
   exact ⟨ret_int (by rw [szR_neg (by omega)]),xw⟩
 ·go_enter Tryz.func95,Tryz.ntmps95
  go_wp2
  go_ret
  exact ⟨ret_int (by rw [szR_neg (by omega)]),xw⟩
set_option maxRecDepth 100000 in
set_option maxHeartbeats 1600000 in
theorem c_laws_szConsole (lo hi:Nat) (cs:List Value) (x:Cns) (left:Int) (w:World) (h:CnsP lo hi w cs x) (hl:0≤left) (hl1:left≤1048576) :
 Calls Tryz.prog 46 #[.agg cs.toArray,.int .i64 left] w fun e w'=>e=.returned (.int .i64 (szR (wtCns x) left))∧Ext w w':=by
 obtain ⟨cr,cl,rfl,E1,E2⟩:=h
 obtain ⟨v0,cc1,v6,v7,cc8,rfl,_,ES,_,_,EB,_⟩:=id E1
 obtain ⟨s0,s1,s2,s3,s4,rfl,_⟩:=id ES
 obtain ⟨yy1,yy2,yy4,yy5,rfl,_⟩:=id EB
 obtain ⟨rfl,_⟩:=id E2
 clear ES EB
 have hw:wtCns x=wtRnt x.run+wtLg x.log:=rfl
 obtain ⟨W0,hW0,hbx,hX,_⟩:=box_facts w [v0,s0,s1,s2,s3,s4,v6,v7,.int .i64 x.run.agent.roots,yy1,yy2,.int .i64 x.run.agent.edges,yy4,yy5,.int .i64 x.run.count,.string x.log.durable,.string x.log.pending,.int .i64 x.log.count] 86
 change Calls Tryz.prog 46 #[.agg #[v0,s0,s1,s2,s3,s4,v6,v7,.int .i64 x.run.agent.roots,yy1,yy2,.int .i64 x.run.agent.edges,yy4,yy5,.int .i64 x.run.count,.string x.log.durable,.string x.log.pending,.int .i64 x.log.count],.int .i64 left] w _
 have q0:=(hbx 0 _ rfl).1
 have q1:=(hbx 1 _ rfl).1
 have q2:=(hbx 2 _ rfl).1
 have q3:=(hbx 3 _ rfl).1
 have q4:=(hbx 4 _ rfl).1
 have q5:=(hbx 5 _ rfl).1
 have q6:=(hbx 6 _ rfl).1
 have q7:=(hbx 7 _ rfl).1
 have q8:=(hbx 8 _ rfl).1
 have q9:=(hbx 9 _ rfl).1
 have q10:=(hbx 10 _ rfl).1
 have q11:=(hbx 11 _ rfl).1
 have q12:=(hbx 12 _ rfl).1
 have q13:=(hbx 13 _ rfl).1
 have q14:=(hbx 14 _ rfl).1
 have q15:=(hbx 15 _ rfl).1
 have q16:=(hbx 16 _ rfl).1
 have q17:=(hbx 17 _ rfl).1
 go_enter Tryz.func46,Tryz.ntmps46
 go_wp2_with fail
 refine (c_laws_szRuntime lo hi _ _ (left) _ (RntP.keeps _ _ _ _ _ _ (Same.ext hX) E1) (by omega) (by omega)).mono ?_
 rintro e u0 ⟨rfl,hb⟩
 replace q0:=hb.keep q0
 replace q1:=hb.keep q1
 replace q2:=hb.keep q2
 replace q3:=hb.keep q3
 replace q4:=hb.keep q4
 replace q5:=hb.keep q5
 replace q6:=hb.keep q6
 replace q7:=hb.keep q7
 replace q8:=hb.keep q8
 replace q9:=hb.keep q9
 replace q10:=hb.keep q10
 replace q11:=hb.keep q11
 replace q12:=hb.keep q12
 replace q13:=hb.keep q13
 replace q14:=hb.keep q14
 replace q15:=hb.keep q15
 replace q16:=hb.keep q16
 replace q17:=hb.keep q17
 replace hX:=hX.trans hb
 clear hb
 by_cases h0:((wtRnt x.run:Nat):Int)≤left
 rotate_left
 ·rw [szR_neg (by omega)]
  go_wp2
  go_ret
  exact ⟨ret_int (by rw [szR_neg (by omega)]),hX⟩
 rw [szR_pos (by omega)]
 go_wp2_with fail
 refine (kLg_szLog lo hi _ _ (left - ((wtRnt x.run:Nat):Int)) _ (LgP.keeps _ _ _ _ _ _ (Same.ext hX) E2) (by omega) (by omega)).mono ?_
 rintro e u1 ⟨rfl,hb⟩
 replace q0:=hb.keep q0
 replace q1:=hb.keep q1
 replace q2:=hb.keep q2
 replace q3:=hb.keep q3
 replace q4:=hb.keep q4
 replace q5:=hb.keep q5
 replace q6:=hb.keep q6
 replace q7:=hb.keep q7
 replace q8:=hb.keep q8
 replace q9:=hb.keep q9
 replace q10:=hb.keep q10
 replace q11:=hb.keep q11
 replace q12:=hb.keep q12
 replace q13:=hb.keep q13
 replace q14:=hb.keep q14
 replace q15:=hb.keep q15
 replace q16:=hb.keep q16
 replace q17:=hb.keep q17
 replace hX:=hX.trans hb
 clear hb
 by_cases h1:((wtLg x.log:Nat):Int)≤left - ((wtRnt x.run:Nat):Int)
 rotate_left
 ·rw [szR_neg (by omega)]
  go_wp2
  go_ret
  exact ⟨ret_int (by rw [szR_neg (by omega)]),hX⟩
 rw [szR_pos (by omega)]
 go_wp2
 go_ret
 exact ⟨ret_int (by rw [szR_pos (by omega)];omega),hX⟩
set_option maxRecDepth 100000 in
set_option maxHeartbeats 1600000 in
theorem kLg_toLog (lo hi:Nat) (cs:List Value) (x:Lg) (w:World) (h:LgP lo hi w cs x) :
 Calls Tryz.prog 97 #[.agg cs.toArray] w fun e w'=>∃ds,e=.returned (.agg ds.toArray)∧LgP w.heap.size w'.heap.size w' ds x∧Ext w w':=by
 obtain ⟨rfl,e1,e2,e3⟩:=h
 have A0:BoxAt (((w.alloc (.cells #[.string x.durable,.string x.pending,.int .i64 x.count] 84)).alloc (.cells #[.string ⟨#[]⟩,.string ⟨#[]⟩,.int .i64 0] 77)).alloc (.cells #[.string x.durable,.string x.pending,.int .i64 x.count] 77)) w.heap.size [.string x.durable,.string x.pending,.int .i64 x.count]:=((BoxAt.new w 84 [.string x.durable,.string x.pending,.int .i64 x.count] w.heap.size rfl).ext ((Ext.refl _).alloc _)).ext ((Ext.refl _).alloc _)
 have R0:BoxAt (((w.alloc (.cells #[.string x.durable,.string x.pending,.int .i64 x.count] 84)).alloc (.cells #[.string ⟨#[]⟩,.string ⟨#[]⟩,.int .i64 0] 77)).alloc (.cells #[.string x.durable,.string x.pending,.int .i64 x.count] 77)) (w.heap.size+1) [.string ⟨#[]⟩,.string ⟨#[]⟩,.int .i64 0]:=(BoxAt.new (w.alloc (.cells #[.string x.durable,.string x.pending,.int .i64 x.count] 84)) 77 [.string ⟨#[]⟩,.string ⟨#[]⟩,.int .i64 0] (w.heap.size+1) (by simp)).ext ((Ext.refl _).alloc _)
 have O0:BoxAt (((w.alloc (.cells #[.string x.durable,.string x.pending,.int .i64 x.count] 84)).alloc (.cells #[.string ⟨#[]⟩,.string ⟨#[]⟩,.int .i64 0] 77)).alloc (.cells #[.string x.durable,.string x.pending,.int .i64 x.count] 77)) (w.heap.size+1+1) [.string x.durable,.string x.pending,.int .i64 x.count]:=BoxAt.new _ 77 [.string x.durable,.string x.pending,.int .i64 x.count] (w.heap.size+1+1) (by simp)
 go_enter Tryz.func97,Tryz.ntmps97
 go_wp2_with fail
 refine bodyPost_ret (v:=.agg #[.string x.durable,.string x.pending,.int .i64 x.count]) ?_ rfl ⟨[.string x.durable,.string x.pending,.int .i64 x.count],rfl,?_,xw⟩
 ·simp [results,Tryz.results97,go_sem]
 ·exact ⟨rfl,e1,e2,e3⟩
theorem infoRntM:(Tryz.prog.info? 46).map (·.size)=some 15:=by kernel_rfl
theorem infoLgM:(Tryz.prog.info? 77).map (·.size)=some 3:=by kernel_rfl
theorem infoCnsM:(Tryz.prog.info? 79).map (·.size)=some 18:=by kernel_rfl
set_option maxRecDepth 100000 in
set_option maxHeartbeats 6400000 in
theorem c_laws_toConsole (lo hi:Nat) (cs:List Value) (x:Cns) (w:World) (h:CnsP lo hi w cs x) (hs:wtCns x≤1048576) :
 Calls Tryz.prog 48 #[.agg cs.toArray] w fun e w'=>∃ds,e=.returned (.agg ds.toArray)∧CnsO w.heap.size w'.heap.size w' ds x∧Ext w w':=by
 obtain ⟨cr,cl,rfl,E1,E2⟩:=h
 obtain ⟨v0,cc1,v6,v7,cc8,rfl,_,ES,_,_,EB,_⟩:=id E1
 obtain ⟨s0,s1,s2,s3,s4,rfl,_⟩:=id ES
 obtain ⟨yy1,yy2,yy4,yy5,rfl,_⟩:=id EB
 obtain ⟨rfl,_⟩:=id E2
 clear ES EB
 have hw:wtCns x=wtRnt x.run+wtLg x.log:=rfl
 obtain ⟨W0,hW0,hbx,hx0,hz⟩:=box_facts w [v0,s0,s1,s2,s3,s4,v6,v7,.int .i64 x.run.agent.roots,yy1,yy2,.int .i64 x.run.agent.edges,yy4,yy5,.int .i64 x.run.count,.string x.log.durable,.string x.log.pending,.int .i64 x.log.count] 86
 change Calls Tryz.prog 48 #[.agg #[v0,s0,s1,s2,s3,s4,v6,v7,.int .i64 x.run.agent.roots,yy1,yy2,.int .i64 x.run.agent.edges,yy4,yy5,.int .i64 x.run.count,.string x.log.durable,.string x.log.pending,.int .i64 x.log.count]] w _
 obtain ⟨W1,hW1,hby,hx1,hy⟩:=box_facts W0 [.slice none 0 0,.slice none 0 0,.slice none 0 0,.slice none 0 0,.slice none 0 0,.slice none 0 0,.slice none 0 0,.slice none 0 0,.int .i64 0,.slice none 0 0,.slice none 0 0,.int .i64 0,.slice none 0 0,.slice none 0 0,.int .i64 0,.string ⟨#[]⟩,.string ⟨#[]⟩,.int .i64 0] 79
 obtain ⟨W2,hW2,hbo,hx2,ho⟩:=box_facts W1 [.slice none 0 0,.slice none 0 0,.slice none 0 0,.slice none 0 0,.slice none 0 0,.slice none 0 0,.slice none 0 0,.slice none 0 0,.int .i64 0,.slice none 0 0,.slice none 0 0,.int .i64 0,.slice none 0 0,.slice none 0 0,.int .i64 0,.string ⟨#[]⟩,.string ⟨#[]⟩,.int .i64 0] 79
 have hxw:Ext w W2:=(hx0.trans hx1).trans hx2
 replace hbx:=(hbx.ext hx1).ext hx2
 replace hby:=hby.ext hx2
 rw [hz] at hby
 rw [hy,hz] at hbo
 have p0:=(hbx 0 _ rfl).1;have p1:=(hbx 1 _ rfl).1;have p2:=(hbx 2 _ rfl).1;have p3:=(hbx 3 _ rfl).1;have p4:=(hbx 4 _ rfl).1;have p5:=(hbx 5 _ rfl).1;have p6:=(hbx 6 _ rfl).1;have p7:=(hbx 7 _ rfl).1;have p8:=(hbx 8 _ rfl).1;have p9:=(hbx 9 _ rfl).1;have p10:=(hbx 10 _ rfl).1;have p11:=(hbx 11 _ rfl).1;have p12:=(hbx 12 _ rfl).1;have p13:=(hbx 13 _ rfl).1;have p14:=(hbx 14 _ rfl).1;have p15:=(hbx 15 _ rfl).1;have p16:=(hbx 16 _ rfl).1;have p17:=(hbx 17 _ rfl).1
 go_enter Tryz.func48,Tryz.ntmps48
 go_wp2_with fail
 (try rw [hW2])
 have hzw:w.heap.size+1+1<W2.heap.size:=by omega
 clear hz hy ho hW0 hW1 hW2 hbx hx0 hx1 hx2
 refine (c_laws_toRuntime lo hi _ _ _ (RntP.keeps _ _ _ _ _ _ (Same.ext hxw) E1) (by omega)).mono ?_
 rintro e y0 ⟨dd0,rfl,hD0,hb0⟩
 have z0:=Below.size hb0
 have HD0:=hD0
 obtain ⟨_,_,_,_,_,_,_,_,_,_,_,_,_,_,_,rfl,⟨pa0,pk0,rfl,_⟩,⟨_,_,_,_,_,_,_,_,_,_,_,_,_,_,_,rfl,⟨pb0,pl0,rfl,_⟩,⟨pb1,pl1,rfl,_⟩,⟨pb2,pl2,rfl,_⟩,⟨pb3,pl3,rfl,_⟩,⟨pb4,pl4,rfl,_⟩,_⟩,⟨pa6,pk6,rfl,_⟩,⟨pa7,pk7,rfl,_⟩,⟨_,_,_,_,_,_,_,_,_,_,_,_,rfl,_,_,⟨pc1,pm1,rfl,_⟩,⟨pc2,pm2,rfl,_⟩,⟨pc4,pm4,rfl,_⟩,⟨pc5,pm5,rfl,_⟩,_⟩,_,_⟩:=HD0
 replace hby:=hby.ext hb0
 replace hbo:=hbo.ext hb0
 replace hxw:=hxw.trans hb0
 replace p0:=hb0.keep p0;replace p1:=hb0.keep p1;replace p2:=hb0.keep p2;replace p3:=hb0.keep p3;replace p4:=hb0.keep p4;replace p5:=hb0.keep p5;replace p6:=hb0.keep p6;replace p7:=hb0.keep p7;replace p8:=hb0.keep p8;replace p9:=hb0.keep p9;replace p10:=hb0.keep p10;replace p11:=hb0.keep p11;replace p12:=hb0.keep p12;replace p13:=hb0.keep p13;replace p14:=hb0.keep p14;replace p15:=hb0.keep p15;replace p16:=hb0.keep p16;replace p17:=hb0.keep p17
 clear hb0
 as_aux_lemma=>
  go_wp2_with (refine wpList_store_box rfl 46 (.tmp 7) (.tmp 6) rfl _ 0 [.slice pa0 x.run.sig.length pk0,.slice pb0 x.run.sort.tops.length pl0,.slice pb1 x.run.sort.nest.length pl1,.slice pb2 x.run.sort.sorts.length pl2,.slice pb3 x.run.sort.most.length pl3,.slice pb4 x.run.sort.apart.length pl4,.slice pa6 x.run.rules.length pk6,.slice pa7 x.run.hosts.length pk7,.int .i64 x.run.agent.roots,.slice pc1 x.run.agent.nodes.length pm1,.slice pc2 x.run.agent.sites.length pm2,.int .i64 x.run.agent.edges,.slice pc4 x.run.agent.outer.length pm4,.slice pc5 x.run.agent.inner.length pm5,.int .i64 x.run.count] _ rfl rfl hbo (by simp) infoRntM (by simp [Value.oneCell']) ?_;intro y1 hbo1 hg1 hs1;have P15:=grown_stay hg1 p15 (by omega);have P16:=grown_stay hg1 p16 (by omega);have P17:=grown_stay hg1 p17 (by omega))
  replace hbo1:BoxAt y1 (w.heap.size+1+1) [.slice pa0 x.run.sig.length pk0,.slice pb0 x.run.sort.tops.length pl0,.slice pb1 x.run.sort.nest.length pl1,.slice pb2 x.run.sort.sorts.length pl2,.slice pb3 x.run.sort.most.length pl3,.slice pb4 x.run.sort.apart.length pl4,.slice pa6 x.run.rules.length pk6,.slice pa7 x.run.hosts.length pk7,.int .i64 x.run.agent.roots,.slice pc1 x.run.agent.nodes.length pm1,.slice pc2 x.run.agent.sites.length pm2,.int .i64 x.run.agent.edges,.slice pc4 x.run.agent.outer.length pm4,.slice pc5 x.run.agent.inner.length pm5,.int .i64 x.run.count,.string ⟨#[]⟩,.string ⟨#[]⟩,.int .i64 0]:=hbo1
  replace hby:=hby.grown hg1 (fun g hg=>by cases hg;omega)
  replace hD0:=RntO.keepsO.grown hD0 hg1 (fun g hg=>by cases hg;omega)
  replace hxw:=hxw.own hg1 (fun g hg=>by cases hg;omega)
  clear hbo
  refine (kLg_toLog lo hi _ _ _ (LgP.keeps _ _ _ _ _ _ (Same.ext hxw) E2)).mono ?_
  rintro e y2 ⟨dd1,rfl,hD1,hb1⟩
  have z1:=Below.size hb1
  have HD1:=hD1
  obtain ⟨rfl,_⟩:=HD1
  replace hby:=hby.ext hb1
  replace hbo1:=hbo1.ext hb1
  replace hxw:=hxw.trans hb1
  replace hD0:=RntO.keepsO.ext hD0 hb1
  as_aux_lemma=>
   go_upto_region 4 with (refine wpList_store_box rfl 77 (.tmp 11) (.tmp 10) rfl _ 15 [.string x.log.durable,.string x.log.pending,.int .i64 x.log.count] _ rfl rfl hbo1 (by simp) infoLgM (by simp [Value.oneCell']) ?_;intro y3 hbo3 hg3 hs3)
   replace hbo3:BoxAt y3 (w.heap.size+1+1) [.slice pa0 x.run.sig.length pk0,.slice pb0 x.run.sort.tops.length pl0,.slice pb1 x.run.sort.nest.length pl1,.slice pb2 x.run.sort.sorts.length pl2,.slice pb3 x.run.sort.most.length pl3,.slice pb4 x.run.sort.apart.length pl4,.slice pa6 x.run.rules.length pk6,.slice pa7 x.run.hosts.length pk7,.int .i64 x.run.agent.roots,.slice pc1 x.run.agent.nodes.length pm1,.slice pc2 x.run.agent.sites.length pm2,.int .i64 x.run.agent.edges,.slice pc4 x.run.agent.outer.length pm4,.slice pc5 x.run.agent.inner.length pm5,.int .i64 x.run.count,.string x.log.durable,.string x.log.pending,.int .i64 x.log.count]:=hbo3
   replace hby:=hby.grown hg3 (fun g hg=>by cases hg;omega)
   replace hD0:=RntO.keepsO.grown hD0 hg3 (fun g hg=>by cases hg;omega)
   replace hxw:=hxw.own hg3 (fun g hg=>by cases hg;omega)
   refine wp_region_lit ?_
   refine wpList_load_box rfl 79 (.tmp 3) rfl _ 0 [.slice pa0 x.run.sig.length pk0,.slice pb0 x.run.sort.tops.length pl0,.slice pb1 x.run.sort.nest.length pl1,.slice pb2 x.run.sort.sorts.length pl2,.slice pb3 x.run.sort.most.length pl3,.slice pb4 x.run.sort.apart.length pl4,.slice pa6 x.run.rules.length pk6,.slice pa7 x.run.hosts.length pk7,.int .i64 x.run.agent.roots,.slice pc1 x.run.agent.nodes.length pm1,.slice pc2 x.run.agent.sites.length pm2,.int .i64 x.run.agent.edges,.slice pc4 x.run.agent.outer.length pm4,.slice pc5 x.run.agent.inner.length pm5,.int .i64 x.run.count,.string x.log.durable,.string x.log.pending,.int .i64 x.log.count] _ rfl hbo3 (fun j v hj=>by simpa using hj) _ Tryz.underlying79 rfl infoCnsM ?_
   simp only [Act.put,aput]
   refine wpList_store_box rfl 79 (.tmp 2) (.tmp 12) rfl (w.heap.size+1) 0 [.slice pa0 x.run.sig.length pk0,.slice pb0 x.run.sort.tops.length pl0,.slice pb1 x.run.sort.nest.length pl1,.slice pb2 x.run.sort.sorts.length pl2,.slice pb3 x.run.sort.most.length pl3,.slice pb4 x.run.sort.apart.length pl4,.slice pa6 x.run.rules.length pk6,.slice pa7 x.run.hosts.length pk7,.int .i64 x.run.agent.roots,.slice pc1 x.run.agent.nodes.length pm1,.slice pc2 x.run.agent.sites.length pm2,.int .i64 x.run.agent.edges,.slice pc4 x.run.agent.outer.length pm4,.slice pc5 x.run.agent.inner.length pm5,.int .i64 x.run.count,.string x.log.durable,.string x.log.pending,.int .i64 x.log.count] _ rfl rfl hby (by simp) infoCnsM (by simp [Value.oneCell']) ?_
   intro y4 hb4 hg4 hs4
   replace hb4:BoxAt y4 (w.heap.size+1) [.slice pa0 x.run.sig.length pk0,.slice pb0 x.run.sort.tops.length pl0,.slice pb1 x.run.sort.nest.length pl1,.slice pb2 x.run.sort.sorts.length pl2,.slice pb3 x.run.sort.most.length pl3,.slice pb4 x.run.sort.apart.length pl4,.slice pa6 x.run.rules.length pk6,.slice pa7 x.run.hosts.length pk7,.int .i64 x.run.agent.roots,.slice pc1 x.run.agent.nodes.length pm1,.slice pc2 x.run.agent.sites.length pm2,.int .i64 x.run.agent.edges,.slice pc4 x.run.agent.outer.length pm4,.slice pc5 x.run.agent.inner.length pm5,.int .i64 x.run.count,.string x.log.durable,.string x.log.pending,.int .i64 x.log.count]:=hb4
   have z20:=(hb4 0 _ rfl).1;have z21:=(hb4 1 _ rfl).1;have z22:=(hb4 2 _ rfl).1;have z23:=(hb4 3 _ rfl).1;have z24:=(hb4 4 _ rfl).1;have z25:=(hb4 5 _ rfl).1;have z26:=(hb4 6 _ rfl).1;have z27:=(hb4 7 _ rfl).1;have z28:=(hb4 8 _ rfl).1;have z29:=(hb4 9 _ rfl).1;have z30:=(hb4 10 _ rfl).1;have z31:=(hb4 11 _ rfl).1;have z32:=(hb4 12 _ rfl).1;have z33:=(hb4 13 _ rfl).1;have z34:=(hb4 14 _ rfl).1;have z35:=(hb4 15 _ rfl).1;have z36:=(hb4 16 _ rfl).1;have z37:=(hb4 17 _ rfl).1
   replace hD0:=RntO.keepsO.grown hD0 hg4 (fun g hg=>by cases hg;omega)
   replace hxw:=hxw.own hg4 (fun g hg=>by cases hg;omega)
   refine wpList_nil ?_
   go_wp2_with fail
   refine bodyPost_ret (v:=.agg #[.slice pa0 x.run.sig.length pk0,.slice pb0 x.run.sort.tops.length pl0,.slice pb1 x.run.sort.nest.length pl1,.slice pb2 x.run.sort.sorts.length pl2,.slice pb3 x.run.sort.most.length pl3,.slice pb4 x.run.sort.apart.length pl4,.slice pa6 x.run.rules.length pk6,.slice pa7 x.run.hosts.length pk7,.int .i64 x.run.agent.roots,.slice pc1 x.run.agent.nodes.length pm1,.slice pc2 x.run.agent.sites.length pm2,.int .i64 x.run.agent.edges,.slice pc4 x.run.agent.outer.length pm4,.slice pc5 x.run.agent.inner.length pm5,.int .i64 x.run.count,.string x.log.durable,.string x.log.pending,.int .i64 x.log.count]) ?_ rfl ⟨[.slice pa0 x.run.sig.length pk0,.slice pb0 x.run.sort.tops.length pl0,.slice pb1 x.run.sort.nest.length pl1,.slice pb2 x.run.sort.sorts.length pl2,.slice pb3 x.run.sort.most.length pl3,.slice pb4 x.run.sort.apart.length pl4,.slice pa6 x.run.rules.length pk6,.slice pa7 x.run.hosts.length pk7,.int .i64 x.run.agent.roots,.slice pc1 x.run.agent.nodes.length pm1,.slice pc2 x.run.agent.sites.length pm2,.int .i64 x.run.agent.edges,.slice pc4 x.run.agent.outer.length pm4,.slice pc5 x.run.agent.inner.length pm5,.int .i64 x.run.count,.string x.log.durable,.string x.log.pending,.int .i64 x.log.count],rfl,?_,hxw⟩
   ·simp [results,Tryz.results48,go_sem,z20,z21,z22,z23,z24,z25,z26,z27,z28,z29,z30,z31,z32,z33,z34,z35,z36,z37]
   ·exact ⟨[.slice pa0 x.run.sig.length pk0,.slice pb0 x.run.sort.tops.length pl0,.slice pb1 x.run.sort.nest.length pl1,.slice pb2 x.run.sort.sorts.length pl2,.slice pb3 x.run.sort.most.length pl3,.slice pb4 x.run.sort.apart.length pl4,.slice pa6 x.run.rules.length pk6,.slice pa7 x.run.hosts.length pk7,.int .i64 x.run.agent.roots,.slice pc1 x.run.agent.nodes.length pm1,.slice pc2 x.run.agent.sites.length pm2,.int .i64 x.run.agent.edges,.slice pc4 x.run.agent.outer.length pm4,.slice pc5 x.run.agent.inner.length pm5,.int .i64 x.run.count],[.string x.log.durable,.string x.log.pending,.int .i64 x.log.count],rfl,RntO.widens _ _ _ _ _ _ _ (by omega) (by omega) hD0,LgP.widens _ _ _ _ _ _ _ (by omega) (by omega) (show LgP y1.heap.size y2.heap.size y4 [.string x.log.durable,.string x.log.pending,.int .i64 x.log.count] x.log from hD1)⟩
set_option maxRecDepth 100000 in
set_option maxHeartbeats 1600000 in
theorem kLg_eqLog (l1 u1 l2 u2:Nat) (cs ds:List Value) (x:Lg) (w:World) (h1:LgP l1 u1 w cs x) (h2:LgP l2 u2 w ds x) :
 Calls Tryz.prog 94 #[.agg cs.toArray,.agg ds.toArray] w fun e w'=>e=.returned (.bool true)∧Ext w w':=by
 obtain ⟨rfl,e1,e2,e3⟩:=h1
 obtain ⟨rfl,_⟩:=h2
 go_enter Tryz.func94,Tryz.ntmps94
 go_wp2_with fail
 go_ret
 exact ⟨rfl,xw⟩
set_option maxRecDepth 100000 in
set_option maxHeartbeats 1600000 in
theorem c_laws_eqConsole (l1 u1 l2 u2:Nat) (cs ds:List Value) (x:Cns) (w:World) (h1:CnsP l1 u1 w cs x) (h2:CnsP l2 u2 w ds x) :
 Calls Tryz.prog 43 #[.agg cs.toArray,.agg ds.toArray] w fun e w'=>e=.returned (.bool true)∧Ext w w':=by
 obtain ⟨cr,cl,rfl,E1,E2⟩:=h1
 obtain ⟨v0,cc1,v6,v7,cc8,rfl,_,ES,_,_,EB,_⟩:=id E1
 obtain ⟨s0,s1,s2,s3,s4,rfl,_⟩:=id ES
 obtain ⟨yy1,yy2,yy4,yy5,rfl,_⟩:=id EB
 obtain ⟨rfl,_⟩:=id E2
 clear ES EB
 obtain ⟨cr',cl',rfl,E1',E2'⟩:=h2
 obtain ⟨v0',cc1',v6',v7',cc8',rfl,_,ES,_,_,EB,_⟩:=id E1'
 obtain ⟨s0',s1',s2',s3',s4',rfl,_⟩:=id ES
 obtain ⟨yy1',yy2',yy4',yy5',rfl,_⟩:=id EB
 obtain ⟨rfl,_⟩:=id E2'
 clear ES EB
 go_enter Tryz.func43,Tryz.ntmps43
 go_wp2_with fail
 refine (c_laws_eqRuntime l1 u1 l2 u2 _ _ _ _ (RntP.keeps _ _ _ _ _ _ (Same.ext xw) E1) (RntP.keeps _ _ _ _ _ _ (Same.ext xw) E1')).mono ?_
 rintro e y0 ⟨rfl,hb0⟩
 have q0:=hb0.keep (p:=⟨w.heap.size,0,none⟩) (v:=v0) (by simp [go_sem])
 have r0:=hb0.keep (p:=⟨w.heap.size+1,0,none⟩) (v:=v0') (by simp [go_sem])
 have q1:=hb0.keep (p:=⟨w.heap.size,1,none⟩) (v:=s0) (by simp [go_sem])
 have r1:=hb0.keep (p:=⟨w.heap.size+1,1,none⟩) (v:=s0') (by simp [go_sem])
 have q2:=hb0.keep (p:=⟨w.heap.size,2,none⟩) (v:=s1) (by simp [go_sem])
 have r2:=hb0.keep (p:=⟨w.heap.size+1,2,none⟩) (v:=s1') (by simp [go_sem])
 have q3:=hb0.keep (p:=⟨w.heap.size,3,none⟩) (v:=s2) (by simp [go_sem])
 have r3:=hb0.keep (p:=⟨w.heap.size+1,3,none⟩) (v:=s2') (by simp [go_sem])
 have q4:=hb0.keep (p:=⟨w.heap.size,4,none⟩) (v:=s3) (by simp [go_sem])
 have r4:=hb0.keep (p:=⟨w.heap.size+1,4,none⟩) (v:=s3') (by simp [go_sem])
 have q5:=hb0.keep (p:=⟨w.heap.size,5,none⟩) (v:=s4) (by simp [go_sem])
 have r5:=hb0.keep (p:=⟨w.heap.size+1,5,none⟩) (v:=s4') (by simp [go_sem])
 have q6:=hb0.keep (p:=⟨w.heap.size,6,none⟩) (v:=v6) (by simp [go_sem])
 have r6:=hb0.keep (p:=⟨w.heap.size+1,6,none⟩) (v:=v6') (by simp [go_sem])
 have q7:=hb0.keep (p:=⟨w.heap.size,7,none⟩) (v:=v7) (by simp [go_sem])
 have r7:=hb0.keep (p:=⟨w.heap.size+1,7,none⟩) (v:=v7') (by simp [go_sem])
 have q8:=hb0.keep (p:=⟨w.heap.size,8,none⟩) (v:=.int .i64 x.run.agent.roots) (by simp [go_sem])
 have r8:=hb0.keep (p:=⟨w.heap.size+1,8,none⟩) (v:=.int .i64 x.run.agent.roots) (by simp [go_sem])
 have q9:=hb0.keep (p:=⟨w.heap.size,9,none⟩) (v:=yy1) (by simp [go_sem])
 have r9:=hb0.keep (p:=⟨w.heap.size+1,9,none⟩) (v:=yy1') (by simp [go_sem])
 have q10:=hb0.keep (p:=⟨w.heap.size,10,none⟩) (v:=yy2) (by simp [go_sem])
 have r10:=hb0.keep (p:=⟨w.heap.size+1,10,none⟩) (v:=yy2') (by simp [go_sem])
 have q11:=hb0.keep (p:=⟨w.heap.size,11,none⟩) (v:=.int .i64 x.run.agent.edges) (by simp [go_sem])
 have r11:=hb0.keep (p:=⟨w.heap.size+1,11,none⟩) (v:=.int .i64 x.run.agent.edges) (by simp [go_sem])
 have q12:=hb0.keep (p:=⟨w.heap.size,12,none⟩) (v:=yy4) (by simp [go_sem])
 have r12:=hb0.keep (p:=⟨w.heap.size+1,12,none⟩) (v:=yy4') (by simp [go_sem])
 have q13:=hb0.keep (p:=⟨w.heap.size,13,none⟩) (v:=yy5) (by simp [go_sem])
 have r13:=hb0.keep (p:=⟨w.heap.size+1,13,none⟩) (v:=yy5') (by simp [go_sem])
 have q14:=hb0.keep (p:=⟨w.heap.size,14,none⟩) (v:=.int .i64 x.run.count) (by simp [go_sem])
 have r14:=hb0.keep (p:=⟨w.heap.size+1,14,none⟩) (v:=.int .i64 x.run.count) (by simp [go_sem])
 have q15:=hb0.keep (p:=⟨w.heap.size,15,none⟩) (v:=.string x.log.durable) (by simp [go_sem])
 have r15:=hb0.keep (p:=⟨w.heap.size+1,15,none⟩) (v:=.string x.log.durable) (by simp [go_sem])
 have q16:=hb0.keep (p:=⟨w.heap.size,16,none⟩) (v:=.string x.log.pending) (by simp [go_sem])
 have r16:=hb0.keep (p:=⟨w.heap.size+1,16,none⟩) (v:=.string x.log.pending) (by simp [go_sem])
 have q17:=hb0.keep (p:=⟨w.heap.size,17,none⟩) (v:=.int .i64 x.log.count) (by simp [go_sem])
 have r17:=hb0.keep (p:=⟨w.heap.size+1,17,none⟩) (v:=.int .i64 x.log.count) (by simp [go_sem])
 go_wp2_with fail
 refine (kLg_eqLog l1 u1 l2 u2 _ _ _ _ (LgP.keeps _ _ _ _ _ _ (Same.ext xw) E2) (LgP.keeps _ _ _ _ _ _ (Same.ext xw) E2')).mono ?_
 rintro e y1 ⟨rfl,hb1⟩
 replace q0:=hb1.keep q0
 replace r0:=hb1.keep r0
 replace q1:=hb1.keep q1
 replace r1:=hb1.keep r1
 replace q2:=hb1.keep q2
 replace r2:=hb1.keep r2
 replace q3:=hb1.keep q3
 replace r3:=hb1.keep r3
 replace q4:=hb1.keep q4
 replace r4:=hb1.keep r4
 replace q5:=hb1.keep q5
 replace r5:=hb1.keep r5
 replace q6:=hb1.keep q6
 replace r6:=hb1.keep r6
 replace q7:=hb1.keep q7
 replace r7:=hb1.keep r7
 replace q8:=hb1.keep q8
 replace r8:=hb1.keep r8
 replace q9:=hb1.keep q9
 replace r9:=hb1.keep r9
 replace q10:=hb1.keep q10
 replace r10:=hb1.keep r10
 replace q11:=hb1.keep q11
 replace r11:=hb1.keep r11
 replace q12:=hb1.keep q12
 replace r12:=hb1.keep r12
 replace q13:=hb1.keep q13
 replace r13:=hb1.keep r13
 replace q14:=hb1.keep q14
 replace r14:=hb1.keep r14
 replace q15:=hb1.keep q15
 replace r15:=hb1.keep r15
 replace q16:=hb1.keep q16
 replace r16:=hb1.keep r16
 replace q17:=hb1.keep q17
 replace r17:=hb1.keep r17
 go_wp2_with fail
 go_ret
 exact ⟨rfl,xw⟩
end Go.Proofs.YtccjepndhlobpaaGreatDoor
