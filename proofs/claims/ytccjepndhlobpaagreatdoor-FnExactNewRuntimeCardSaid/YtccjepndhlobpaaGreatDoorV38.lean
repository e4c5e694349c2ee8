/-
  Walks: new runtimes.
-/
import Derived.Test.YtccjepndhlobpaaGreatDoorV36
import Derived.Deep.Cut
namespace Go.Proofs.YtccjepndhlobpaaGreatDoor
open Go.RowKit
set_option linter.unusedVariables false
set_option linter.unusedSimpArgs false
set_option maxRecDepth 100000
set_option maxHeartbeats 6400000
def rntOf (sig:List Ctl) (s:Srt) (rules:List Rul) (hosts:List ByteArray):Rnt:=⟨sig,s,rules,hosts,⟨hosts.length,[],[],0,[],[]⟩,0⟩
/-- A new runtime. -/
def rntNew (sig:List Ctl) (s:Srt) (rules:List Rul) (hosts:List ByteArray):Rnt:=if rntB (rntOf sig s rules hosts) then rntOf sig s rules hosts else rnt0
theorem SlV.none {α:Type} {size:Nat} {P:Lie α} {lo hi:Nat} {w:World}:SlV size P lo hi w (.slice none 0 0) []:=⟨Option.none,0,rfl,Nat.le_refl _,by decide,fun _=>rfl,.inl rfl⟩
theorem infoSrtB:(Tryz.prog.info? 39).map (·.size)=some 5:=by kernel_rfl
theorem builtRnt (a0 a1 a2 a3 a4 a5 a6 a7:Option Addr) (n0 n1 n2 n3 n4 n5 n6 n7 k0 k1 k2 k3 k4 k5 k6 k7:Nat) (x:Int):Tryz.prog.built 46 [(0,.slice a0 n0 k0),(1,.agg #[.slice a1 n1 k1,.slice a2 n2 k2,.slice a3 n3 k3,.slice a4 n4 k4,.slice a5 n5 k5]),(2,.slice a6 n6 k6),(3,.slice a7 n7 k7),(4,.agg #[.int .i64 x,.slice none 0 0,.slice none 0 0,.int .i64 0,.slice none 0 0,.slice none 0 0])] =
 some [.slice a0 n0 k0,.slice a1 n1 k1,.slice a2 n2 k2,.slice a3 n3 k3,.slice a4 n4 k4,.slice a5 n5 k5,.slice a6 n6 k6,.slice a7 n7 k7,.int .i64 x,.slice none 0 0,.slice none 0 0,.int .i64 0,.slice none 0 0,.slice none 0 0,.int .i64 0].toArray:=by kernel_rfl
theorem builtBig (x:Int):Tryz.prog.built 44 [(0,.int .i64 x)]=some [.int .i64 x,.slice none 0 0,.slice none 0 0,.int .i64 0,.slice none 0 0,.slice none 0 0].toArray:=by kernel_rfl
attribute [local irreducible] rntB

theorem c_spec_NewRuntime (lo hi:Nat) (v0 v6 v7:Value) (cs:List Value) (sig:List Ctl) (s:Srt) (rules:List Rul) (hosts:List ByteArray) (w:World) (h0:CtlsV lo hi w v0 sig) (h1:SrtP lo hi w cs s) (h6:RulsV lo hi w v6 rules) (h7:StrsV lo hi w v7 hosts) (hwt:wtRnt (rntOf sig s rules hosts)≤1048576) :
 Calls Tryz.prog 26 #[v0,.agg cs.toArray,v6,v7] w fun e w'=>∃ds,e=.returned (.tuple #[.agg ds.toArray,.bool (rntB (rntOf sig s rules hosts))])∧RntP w.heap.size w'.heap.size w' ds (rntNew sig s rules hosts)∧Ext w w':=by
 have hln:hosts.length≤1048576:=by
  have e:wtRnt (rntOf sig s rules hosts)=wtL wtCtl sig+wtSrt s+wtL wtRul rules+wtL wtStr hosts+wtBig (rntOf sig s rules hosts).agent:=rfl
  have:wtL wtStr hosts=hosts.length+(hosts.map wtStr).sum:=rfl
  omega
 have H0:=h0;have H1:=h1;have H6:=h6;have H7:=h7
 obtain ⟨ya0,yk0,rfl,_⟩:=h0
 obtain ⟨_,_,_,_,_,rfl,⟨yb0,yl0,rfl,_⟩,⟨yb1,yl1,rfl,_⟩,⟨yb2,yl2,rfl,_⟩,⟨yb3,yl3,rfl,_⟩,⟨yb4,yl4,rfl,_⟩⟩:=h1
 obtain ⟨ya6,yk6,rfl,_⟩:=h6
 obtain ⟨ya7,yk7,rfl,_⟩:=h7
 obtain ⟨W0,hW0,hA,hx0,hz⟩:=box_facts w [.slice yb0 s.tops.length yl0,.slice yb1 s.nest.length yl1,.slice yb2 s.sorts.length yl2,.slice yb3 s.most.length yl3,.slice yb4 s.apart.length yl4] 39
 obtain ⟨W1,hW1,hB,hx1,hy⟩:=box_facts W0 [.slice none 0 0,.slice none 0 0,.slice none 0 0,.slice none 0 0,.slice none 0 0,.slice none 0 0,.slice none 0 0,.slice none 0 0,.int .i64 0,.slice none 0 0,.slice none 0 0,.int .i64 0,.slice none 0 0,.slice none 0 0,.int .i64 0] 46
 have hX:=hx0.trans hx1
 replace hA:=hA.ext hx1
 have HR15:RntP lo hi W1 [.slice ya0 sig.length yk0,.slice yb0 s.tops.length yl0,.slice yb1 s.nest.length yl1,.slice yb2 s.sorts.length yl2,.slice yb3 s.most.length yl3,.slice yb4 s.apart.length yl4,.slice ya6 rules.length yk6,.slice ya7 hosts.length yk7,.int .i64 hosts.length,.slice none 0 0,.slice none 0 0,.int .i64 0,.slice none 0 0,.slice none 0 0,.int .i64 0] (rntOf sig s rules hosts):=⟨_,[.slice yb0 s.tops.length yl0,.slice yb1 s.nest.length yl1,.slice yb2 s.sorts.length yl2,.slice yb3 s.most.length yl3,.slice yb4 s.apart.length yl4],_,_,[.int .i64 hosts.length,.slice none 0 0,.slice none 0 0,.int .i64 0,.slice none 0 0,.slice none 0 0],rfl,H0.ext CtlP.keeps hX,SrtP.keeps _ _ _ _ _ _ (Same.ext hX) H1,H6.ext RulP.keeps hX,H7.ext StrP.keeps hX,⟨_,_,_,_,rfl,i64_nat (by omega),i64_zero,SlV.none,SlV.none,SlV.none,SlV.none⟩,i64_zero⟩
 have hw01:w.heap.size<W0.heap.size:=by omega
 have hw12:W0.heap.size<W1.heap.size:=by omega
 clear hz hy H0 H1 H6 H7
 obtain ⟨bb,hbb⟩:∃bb,rntB (rntOf sig s rules hosts)=bb:=⟨_,rfl⟩
 rw [hbb]
 have HR:=Lib.hid hbb
 have HC:=Lib.hid (show rntNew sig s rules hosts=if bb then (rntOf sig s rules hosts) else rnt0 by unfold rntNew;rw [hbb])
 clear hbb
 go_enter Tryz.func26,Tryz.ntmps26
 go_upto_region 1 with fail
 (try rw [hW1])
 clear hW0 hW1
 refine wp_region_lit ?_
 refine wpList_plain rfl fun K hK=>?_
 unfold Oper.wp
 go_simp
 refine hK _ _ ?_
 clear hK
 refine wpList_load_box rfl 39 (.tmp 5) rfl w.heap.size 0 [.slice yb0 s.tops.length yl0,.slice yb1 s.nest.length yl1,.slice yb2 s.sorts.length yl2,.slice yb3 s.most.length yl3,.slice yb4 s.apart.length yl4] _ rfl hA (fun j v hj=>by simpa using hj) _ Tryz.underlying39 rfl infoSrtB ?_
 simp only [Act.put,aput]
 refine wpList_plain rfl fun K hK=>?_
 unfold Oper.wp
 go_simp
 refine hK _ _ ?_
 clear hK
 refine wpList_plain rfl fun K hK=>?_
 unfold Oper.wp
 go_simp
 refine hK _ _ ?_
 clear hK
 refine wpList_plain rfl fun K hK=>?_
 unfold Oper.wp
 go_simp
 refine hK _ _ ?_
 clear hK
 refine wpList_plain rfl fun K hK=>?_
 unfold Oper.wp
 go_simp
 refine hK _ _ ?_
 clear hK
 refine wpList_build_cells rfl 44 [(0,.tmp 16)] rfl [(0,.int .i64 hosts.length)] [.int .i64 hosts.length,.slice none 0 0,.slice none 0 0,.int .i64 0,.slice none 0 0,.slice none 0 0] (builtBig _) (by rfl) ?_
 simp only [Act.put,aput]
 refine wpList_build_cells rfl 46 [(0,.tmp 11),(1,.tmp 12),(2,.tmp 13),(3,.tmp 14),(4,.tmp 17)] rfl [(0,.slice ya0 sig.length yk0),(1,.agg #[.slice yb0 s.tops.length yl0,.slice yb1 s.nest.length yl1,.slice yb2 s.sorts.length yl2,.slice yb3 s.most.length yl3,.slice yb4 s.apart.length yl4]),(2,.slice ya6 rules.length yk6),(3,.slice ya7 hosts.length yk7),(4,.agg #[.int .i64 hosts.length,.slice none 0 0,.slice none 0 0,.int .i64 0,.slice none 0 0,.slice none 0 0])] [.slice ya0 sig.length yk0,.slice yb0 s.tops.length yl0,.slice yb1 s.nest.length yl1,.slice yb2 s.sorts.length yl2,.slice yb3 s.most.length yl3,.slice yb4 s.apart.length yl4,.slice ya6 rules.length yk6,.slice ya7 hosts.length yk7,.int .i64 hosts.length,.slice none 0 0,.slice none 0 0,.int .i64 0,.slice none 0 0,.slice none 0 0,.int .i64 0] (builtRnt _ _ _ _ _ _ _ _ _ _ _ _ _ _ _ _ _ _ _ _ _ _ _ _ _) (by rfl) ?_
 simp only [Act.put,aput]
 go_wp2_with (first|(refine wpList_store_box rfl 46 (.tmp 10) (.tmp 18) rfl W1.heap.size 0 [.slice ya0 sig.length yk0,.slice yb0 s.tops.length yl0,.slice yb1 s.nest.length yl1,.slice yb2 s.sorts.length yl2,.slice yb3 s.most.length yl3,.slice yb4 s.apart.length yl4,.slice ya6 rules.length yk6,.slice ya7 hosts.length yk7,.int .i64 hosts.length,.slice none 0 0,.slice none 0 0,.int .i64 0,.slice none 0 0,.slice none 0 0,.int .i64 0] _ rfl rfl (BoxAt.new _ _ [.slice none 0 0,.slice none 0 0,.slice none 0 0,.slice none 0 0,.slice none 0 0,.slice none 0 0,.slice none 0 0,.slice none 0 0,.int .i64 0,.slice none 0 0,.slice none 0 0,.int .i64 0,.slice none 0 0,.slice none 0 0,.int .i64 0] _ rfl) (by simp) infoRntA (by simp [Value.oneCell']) ?_;intro W2 hT hg4 hs4;have hb4:Ext W1 W2:=((Ext.refl W1).alloc _).own hg4 (fun g hg=>by cases hg;exact Nat.le_refl _);have hz2:W1.heap.size<W2.heap.size:=(by simp only [World.size_alloc] at hs4;omega);replace hB:=hB.ext hb4;replace HR15:=RntP.keeps _ _ _ _ _ _ (Same.ext hb4) HR15;replace hX:=hX.trans hb4;replace hT:BoxAt W2 W1.heap.size [.slice ya0 sig.length yk0,.slice yb0 s.tops.length yl0,.slice yb1 s.nest.length yl1,.slice yb2 s.sorts.length yl2,.slice yb3 s.most.length yl3,.slice yb4 s.apart.length yl4,.slice ya6 rules.length yk6,.slice ya7 hosts.length yk7,.int .i64 hosts.length,.slice none 0 0,.slice none 0 0,.int .i64 0,.slice none 0 0,.slice none 0 0,.int .i64 0]:=hT;clear hb4 hg4 hs4)|(refine wpList_load_box rfl 46 (.tmp 10) rfl W1.heap.size 0 [.slice ya0 sig.length yk0,.slice yb0 s.tops.length yl0,.slice yb1 s.nest.length yl1,.slice yb2 s.sorts.length yl2,.slice yb3 s.most.length yl3,.slice yb4 s.apart.length yl4,.slice ya6 rules.length yk6,.slice ya7 hosts.length yk7,.int .i64 hosts.length,.slice none 0 0,.slice none 0 0,.int .i64 0,.slice none 0 0,.slice none 0 0,.int .i64 0] _ rfl hT (fun j v hj=>by simpa using hj) _ Tryz.underlying46 rfl infoRntA ?_;simp only [Act.put,aput]))
 refine (c_spec_l13Good lo hi _ (rntOf sig s rules hosts) _ HR15 hwt).mono ?_
 rintro e W3 ⟨rfl,hb⟩
 rw [HR.out]
 replace hB:=hB.ext hb
 replace hT:=hT.ext hb
 replace HR15:=RntP.keeps _ _ _ _ _ _ (Same.ext hb) HR15
 replace hX:=hX.trans hb
 have hz3:=Below.size hb
 as_aux_lemma=>
  cases bb
  ·go_wp2_with (refine wpList_store_box rfl 46 (.tmp 8) (.tmp 22) rfl W0.heap.size 0 [.slice none 0 0,.slice none 0 0,.slice none 0 0,.slice none 0 0,.slice none 0 0,.slice none 0 0,.slice none 0 0,.slice none 0 0,.int .i64 0,.slice none 0 0,.slice none 0 0,.int .i64 0,.slice none 0 0,.slice none 0 0,.int .i64 0] _ rfl rfl hB (by simp) infoRntA (by simp [Value.oneCell']) ?_;intro W5 hB3 hBg hBs)
   replace hB3:BoxAt W5 W0.heap.size [.slice none 0 0,.slice none 0 0,.slice none 0 0,.slice none 0 0,.slice none 0 0,.slice none 0 0,.slice none 0 0,.slice none 0 0,.int .i64 0,.slice none 0 0,.slice none 0 0,.int .i64 0,.slice none 0 0,.slice none 0 0,.int .i64 0]:=hB3
   have hx4:=hX.own hBg (fun g hg=>by cases hg;omega)
   go_wp2
   refine bodyPost_ret (v:=.tuple #[.agg #[.slice none 0 0,.slice none 0 0,.slice none 0 0,.slice none 0 0,.slice none 0 0,.slice none 0 0,.slice none 0 0,.slice none 0 0,.int .i64 0,.slice none 0 0,.slice none 0 0,.int .i64 0,.slice none 0 0,.slice none 0 0,.int .i64 0],.bool false]) ?_ rfl ⟨[.slice none 0 0,.slice none 0 0,.slice none 0 0,.slice none 0 0,.slice none 0 0,.slice none 0 0,.slice none 0 0,.slice none 0 0,.int .i64 0,.slice none 0 0,.slice none 0 0,.int .i64 0,.slice none 0 0,.slice none 0 0,.int .i64 0],rfl,?_,hx4⟩
   ·exact results_two hB3 _ Tryz.results26 rfl rfl Tryz.underlying46 rfl infoRntA
   ·rw [HC.out]
    exact RntO.toP (rnt0O (Below.size hx4))
  ·go_wp2_with (refine wpList_load_box rfl 46 (.tmp 10) rfl W1.heap.size 0 [.slice ya0 sig.length yk0,.slice yb0 s.tops.length yl0,.slice yb1 s.nest.length yl1,.slice yb2 s.sorts.length yl2,.slice yb3 s.most.length yl3,.slice yb4 s.apart.length yl4,.slice ya6 rules.length yk6,.slice ya7 hosts.length yk7,.int .i64 hosts.length,.slice none 0 0,.slice none 0 0,.int .i64 0,.slice none 0 0,.slice none 0 0,.int .i64 0] _ rfl hT (fun j v hj=>by simpa using hj) _ Tryz.underlying46 rfl infoRntA ?_;simp only [Act.put,aput])
   refine (c_spec_l13Own lo hi _ (rntOf sig s rules hosts) _ HR15 hwt HR.out).mono ?_
   rintro e W4 ⟨_,rfl,⟨ds,rfl,hD⟩,hc⟩
   obtain ⟨_,_,_,_,_,rfl,⟨za0,zk0,rfl,_⟩,⟨_,_,_,_,_,rfl,⟨zb0,zl0,rfl,_⟩,⟨zb1,zl1,rfl,_⟩,⟨zb2,zl2,rfl,_⟩,⟨zb3,zl3,rfl,_⟩,⟨zb4,zl4,rfl,_⟩⟩,⟨za6,zk6,rfl,_⟩,⟨za7,zk7,rfl,_⟩,⟨_,_,_,_,rfl,_,_,⟨za1,zk1,rfl,_⟩,⟨za2,zk2,rfl,_⟩,⟨za4,zk4,rfl,_⟩,⟨za5,zk5,rfl,_⟩⟩,_⟩:=id (hD)
   replace hB:=hB.ext hc
   have hz4:=Below.size hc
   go_wp2_with (refine wpList_store_box rfl 46 (.tmp 8) (.tmp 24) rfl W0.heap.size 0 [.slice za0 (rntOf sig s rules hosts).sig.length zk0,.slice zb0 (rntOf sig s rules hosts).sort.tops.length zl0,.slice zb1 (rntOf sig s rules hosts).sort.nest.length zl1,.slice zb2 (rntOf sig s rules hosts).sort.sorts.length zl2,.slice zb3 (rntOf sig s rules hosts).sort.most.length zl3,.slice zb4 (rntOf sig s rules hosts).sort.apart.length zl4,.slice za6 (rntOf sig s rules hosts).rules.length zk6,.slice za7 (rntOf sig s rules hosts).hosts.length zk7,.int .i64 (rntOf sig s rules hosts).agent.roots,.slice za1 (rntOf sig s rules hosts).agent.nodes.length zk1,.slice za2 (rntOf sig s rules hosts).agent.sites.length zk2,.int .i64 (rntOf sig s rules hosts).agent.edges,.slice za4 (rntOf sig s rules hosts).agent.outer.length zk4,.slice za5 (rntOf sig s rules hosts).agent.inner.length zk5,.int .i64 (rntOf sig s rules hosts).count] _ rfl rfl hB (by simp) infoRntA (by simp [Value.oneCell']) ?_;intro W5 hB3 hBg hBs)
   replace hB3:BoxAt W5 W0.heap.size [.slice za0 (rntOf sig s rules hosts).sig.length zk0,.slice zb0 (rntOf sig s rules hosts).sort.tops.length zl0,.slice zb1 (rntOf sig s rules hosts).sort.nest.length zl1,.slice zb2 (rntOf sig s rules hosts).sort.sorts.length zl2,.slice zb3 (rntOf sig s rules hosts).sort.most.length zl3,.slice zb4 (rntOf sig s rules hosts).sort.apart.length zl4,.slice za6 (rntOf sig s rules hosts).rules.length zk6,.slice za7 (rntOf sig s rules hosts).hosts.length zk7,.int .i64 (rntOf sig s rules hosts).agent.roots,.slice za1 (rntOf sig s rules hosts).agent.nodes.length zk1,.slice za2 (rntOf sig s rules hosts).agent.sites.length zk2,.int .i64 (rntOf sig s rules hosts).agent.edges,.slice za4 (rntOf sig s rules hosts).agent.outer.length zk4,.slice za5 (rntOf sig s rules hosts).agent.inner.length zk5,.int .i64 (rntOf sig s rules hosts).count]:=hB3
   have hx4:=(hX.trans hc).own hBg (fun g hg=>by cases hg;omega)
   have hD4:=RntP.keeps _ _ _ _ _ _ (Same.grown hBg (.inl (by omega))) hD
   go_wp2
   refine bodyPost_ret (v:=.tuple #[.agg #[.slice za0 (rntOf sig s rules hosts).sig.length zk0,.slice zb0 (rntOf sig s rules hosts).sort.tops.length zl0,.slice zb1 (rntOf sig s rules hosts).sort.nest.length zl1,.slice zb2 (rntOf sig s rules hosts).sort.sorts.length zl2,.slice zb3 (rntOf sig s rules hosts).sort.most.length zl3,.slice zb4 (rntOf sig s rules hosts).sort.apart.length zl4,.slice za6 (rntOf sig s rules hosts).rules.length zk6,.slice za7 (rntOf sig s rules hosts).hosts.length zk7,.int .i64 (rntOf sig s rules hosts).agent.roots,.slice za1 (rntOf sig s rules hosts).agent.nodes.length zk1,.slice za2 (rntOf sig s rules hosts).agent.sites.length zk2,.int .i64 (rntOf sig s rules hosts).agent.edges,.slice za4 (rntOf sig s rules hosts).agent.outer.length zk4,.slice za5 (rntOf sig s rules hosts).agent.inner.length zk5,.int .i64 (rntOf sig s rules hosts).count],.bool true]) ?_ rfl ⟨[.slice za0 (rntOf sig s rules hosts).sig.length zk0,.slice zb0 (rntOf sig s rules hosts).sort.tops.length zl0,.slice zb1 (rntOf sig s rules hosts).sort.nest.length zl1,.slice zb2 (rntOf sig s rules hosts).sort.sorts.length zl2,.slice zb3 (rntOf sig s rules hosts).sort.most.length zl3,.slice zb4 (rntOf sig s rules hosts).sort.apart.length zl4,.slice za6 (rntOf sig s rules hosts).rules.length zk6,.slice za7 (rntOf sig s rules hosts).hosts.length zk7,.int .i64 (rntOf sig s rules hosts).agent.roots,.slice za1 (rntOf sig s rules hosts).agent.nodes.length zk1,.slice za2 (rntOf sig s rules hosts).agent.sites.length zk2,.int .i64 (rntOf sig s rules hosts).agent.edges,.slice za4 (rntOf sig s rules hosts).agent.outer.length zk4,.slice za5 (rntOf sig s rules hosts).agent.inner.length zk5,.int .i64 (rntOf sig s rules hosts).count],rfl,?_,hx4⟩
   ·exact results_two hB3 _ Tryz.results26 rfl rfl Tryz.underlying46 rfl infoRntA
   ·rw [HC.out]
    exact RntP.widens _ _ _ _ _ _ _ (by omega) (by omega) hD4
theorem c_impl_NewRuntime (lo hi:Nat) (v0 v6 v7:Value) (cs:List Value) (sig:List Ctl) (s:Srt) (rules:List Rul) (hosts:List ByteArray) (w:World) (h0:CtlsV lo hi w v0 sig) (h1:SrtP lo hi w cs s) (h6:RulsV lo hi w v6 rules) (h7:StrsV lo hi w v7 hosts) (hwt:wtRnt (rntOf sig s rules hosts)≤1048576) :
 Calls Tryz.prog 31 #[v0,.agg cs.toArray,v6,v7] w fun e w'=>∃ds,e=.returned (.tuple #[.agg ds.toArray,.bool (rntB (rntOf sig s rules hosts))])∧RntO w.heap.size w'.heap.size w' ds (rntNew sig s rules hosts)∧Ext w w':=by
 have hln:hosts.length≤1048576:=by
  have e:wtRnt (rntOf sig s rules hosts)=wtL wtCtl sig+wtSrt s+wtL wtRul rules+wtL wtStr hosts+wtBig (rntOf sig s rules hosts).agent:=rfl
  have:wtL wtStr hosts=hosts.length+(hosts.map wtStr).sum:=rfl
  omega
 have H0:=h0;have H1:=h1;have H6:=h6;have H7:=h7
 obtain ⟨ya0,yk0,rfl,_⟩:=h0
 obtain ⟨_,_,_,_,_,rfl,⟨yb0,yl0,rfl,_⟩,⟨yb1,yl1,rfl,_⟩,⟨yb2,yl2,rfl,_⟩,⟨yb3,yl3,rfl,_⟩,⟨yb4,yl4,rfl,_⟩⟩:=h1
 obtain ⟨ya6,yk6,rfl,_⟩:=h6
 obtain ⟨ya7,yk7,rfl,_⟩:=h7
 obtain ⟨W0,hW0,hA,hx0,hz⟩:=box_facts w [.slice yb0 s.tops.length yl0,.slice yb1 s.nest.length yl1,.slice yb2 s.sorts.length yl2,.slice yb3 s.most.length yl3,.slice yb4 s.apart.length yl4] 39
 obtain ⟨W1,hW1,hB,hx1,hy⟩:=box_facts W0 [.slice none 0 0,.slice none 0 0,.slice none 0 0,.slice none 0 0,.slice none 0 0,.slice none 0 0,.slice none 0 0,.slice none 0 0,.int .i64 0,.slice none 0 0,.slice none 0 0,.int .i64 0,.slice none 0 0,.slice none 0 0,.int .i64 0] 46
 have hX:=hx0.trans hx1
 replace hA:=hA.ext hx1
 have HR15:RntP lo hi W1 [.slice ya0 sig.length yk0,.slice yb0 s.tops.length yl0,.slice yb1 s.nest.length yl1,.slice yb2 s.sorts.length yl2,.slice yb3 s.most.length yl3,.slice yb4 s.apart.length yl4,.slice ya6 rules.length yk6,.slice ya7 hosts.length yk7,.int .i64 hosts.length,.slice none 0 0,.slice none 0 0,.int .i64 0,.slice none 0 0,.slice none 0 0,.int .i64 0] (rntOf sig s rules hosts):=⟨_,[.slice yb0 s.tops.length yl0,.slice yb1 s.nest.length yl1,.slice yb2 s.sorts.length yl2,.slice yb3 s.most.length yl3,.slice yb4 s.apart.length yl4],_,_,[.int .i64 hosts.length,.slice none 0 0,.slice none 0 0,.int .i64 0,.slice none 0 0,.slice none 0 0],rfl,H0.ext CtlP.keeps hX,SrtP.keeps _ _ _ _ _ _ (Same.ext hX) H1,H6.ext RulP.keeps hX,H7.ext StrP.keeps hX,⟨_,_,_,_,rfl,i64_nat (by omega),i64_zero,SlV.none,SlV.none,SlV.none,SlV.none⟩,i64_zero⟩
 have hw01:w.heap.size<W0.heap.size:=by omega
 have hw12:W0.heap.size<W1.heap.size:=by omega
 clear hz hy H0 H1 H6 H7
 obtain ⟨bb,hbb⟩:∃bb,rntB (rntOf sig s rules hosts)=bb:=⟨_,rfl⟩
 rw [hbb]
 have HR:=Lib.hid hbb
 have HC:=Lib.hid (show rntNew sig s rules hosts=if bb then (rntOf sig s rules hosts) else rnt0 by unfold rntNew;rw [hbb])
 clear hbb
 go_enter Tryz.func31,Tryz.ntmps31
 go_upto_region 1 with fail
 (try rw [hW1])
 clear hW0 hW1
 refine wp_region_lit ?_
 refine wpList_plain rfl fun K hK=>?_
 unfold Oper.wp
 go_simp
 refine hK _ _ ?_
 clear hK
 refine wpList_load_box rfl 39 (.tmp 5) rfl w.heap.size 0 [.slice yb0 s.tops.length yl0,.slice yb1 s.nest.length yl1,.slice yb2 s.sorts.length yl2,.slice yb3 s.most.length yl3,.slice yb4 s.apart.length yl4] _ rfl hA (fun j v hj=>by simpa using hj) _ Tryz.underlying39 rfl infoSrtB ?_
 simp only [Act.put,aput]
 refine wpList_plain rfl fun K hK=>?_
 unfold Oper.wp
 go_simp
 refine hK _ _ ?_
 clear hK
 refine wpList_plain rfl fun K hK=>?_
 unfold Oper.wp
 go_simp
 refine hK _ _ ?_
 clear hK
 refine wpList_plain rfl fun K hK=>?_
 unfold Oper.wp
 go_simp
 refine hK _ _ ?_
 clear hK
 refine wpList_plain rfl fun K hK=>?_
 unfold Oper.wp
 go_simp
 refine hK _ _ ?_
 clear hK
 refine wpList_build_cells rfl 44 [(0,.tmp 16)] rfl [(0,.int .i64 hosts.length)] [.int .i64 hosts.length,.slice none 0 0,.slice none 0 0,.int .i64 0,.slice none 0 0,.slice none 0 0] (builtBig _) (by rfl) ?_
 simp only [Act.put,aput]
 refine wpList_build_cells rfl 46 [(0,.tmp 11),(1,.tmp 12),(2,.tmp 13),(3,.tmp 14),(4,.tmp 17)] rfl [(0,.slice ya0 sig.length yk0),(1,.agg #[.slice yb0 s.tops.length yl0,.slice yb1 s.nest.length yl1,.slice yb2 s.sorts.length yl2,.slice yb3 s.most.length yl3,.slice yb4 s.apart.length yl4]),(2,.slice ya6 rules.length yk6),(3,.slice ya7 hosts.length yk7),(4,.agg #[.int .i64 hosts.length,.slice none 0 0,.slice none 0 0,.int .i64 0,.slice none 0 0,.slice none 0 0])] [.slice ya0 sig.length yk0,.slice yb0 s.tops.length yl0,.slice yb1 s.nest.length yl1,.slice yb2 s.sorts.length yl2,.slice yb3 s.most.length yl3,.slice yb4 s.apart.length yl4,.slice ya6 rules.length yk6,.slice ya7 hosts.length yk7,.int .i64 hosts.length,.slice none 0 0,.slice none 0 0,.int .i64 0,.slice none 0 0,.slice none 0 0,.int .i64 0] (builtRnt _ _ _ _ _ _ _ _ _ _ _ _ _ _ _ _ _ _ _ _ _ _ _ _ _) (by rfl) ?_
 simp only [Act.put,aput]
 go_wp2_with (first|(refine wpList_store_box rfl 46 (.tmp 10) (.tmp 18) rfl W1.heap.size 0 [.slice ya0 sig.length yk0,.slice yb0 s.tops.length yl0,.slice yb1 s.nest.length yl1,.slice yb2 s.sorts.length yl2,.slice yb3 s.most.length yl3,.slice yb4 s.apart.length yl4,.slice ya6 rules.length yk6,.slice ya7 hosts.length yk7,.int .i64 hosts.length,.slice none 0 0,.slice none 0 0,.int .i64 0,.slice none 0 0,.slice none 0 0,.int .i64 0] _ rfl rfl (BoxAt.new _ _ [.slice none 0 0,.slice none 0 0,.slice none 0 0,.slice none 0 0,.slice none 0 0,.slice none 0 0,.slice none 0 0,.slice none 0 0,.int .i64 0,.slice none 0 0,.slice none 0 0,.int .i64 0,.slice none 0 0,.slice none 0 0,.int .i64 0] _ rfl) (by simp) infoRntA (by simp [Value.oneCell']) ?_;intro W2 hT hg4 hs4;have hb4:Ext W1 W2:=((Ext.refl W1).alloc _).own hg4 (fun g hg=>by cases hg;exact Nat.le_refl _);have hz2:W1.heap.size<W2.heap.size:=(by simp only [World.size_alloc] at hs4;omega);replace hB:=hB.ext hb4;replace HR15:=RntP.keeps _ _ _ _ _ _ (Same.ext hb4) HR15;replace hX:=hX.trans hb4;replace hT:BoxAt W2 W1.heap.size [.slice ya0 sig.length yk0,.slice yb0 s.tops.length yl0,.slice yb1 s.nest.length yl1,.slice yb2 s.sorts.length yl2,.slice yb3 s.most.length yl3,.slice yb4 s.apart.length yl4,.slice ya6 rules.length yk6,.slice ya7 hosts.length yk7,.int .i64 hosts.length,.slice none 0 0,.slice none 0 0,.int .i64 0,.slice none 0 0,.slice none 0 0,.int .i64 0]:=hT;clear hb4 hg4 hs4)|(refine wpList_load_box rfl 46 (.tmp 10) rfl W1.heap.size 0 [.slice ya0 sig.length yk0,.slice yb0 s.tops.length yl0,.slice yb1 s.nest.length yl1,.slice yb2 s.sorts.length yl2,.slice yb3 s.most.length yl3,.slice yb4 s.apart.length yl4,.slice ya6 rules.length yk6,.slice ya7 hosts.length yk7,.int .i64 hosts.length,.slice none 0 0,.slice none 0 0,.int .i64 0,.slice none 0 0,.slice none 0 0,.int .i64 0] _ rfl hT (fun j v hj=>by simpa using hj) _ Tryz.underlying46 rfl infoRntA ?_;simp only [Act.put,aput]))
 refine (c_impl_IsRuntime lo hi _ (rntOf sig s rules hosts) _ HR15 hwt).mono ?_
 rintro e W3 ⟨rfl,hb⟩
 rw [HR.out]
 replace hB:=hB.ext hb
 replace hT:=hT.ext hb
 replace HR15:=RntP.keeps _ _ _ _ _ _ (Same.ext hb) HR15
 replace hX:=hX.trans hb
 have hz3:=Below.size hb
 as_aux_lemma=>
  cases bb
  ·go_wp2_with (refine wpList_store_box rfl 46 (.tmp 8) (.tmp 22) rfl W0.heap.size 0 [.slice none 0 0,.slice none 0 0,.slice none 0 0,.slice none 0 0,.slice none 0 0,.slice none 0 0,.slice none 0 0,.slice none 0 0,.int .i64 0,.slice none 0 0,.slice none 0 0,.int .i64 0,.slice none 0 0,.slice none 0 0,.int .i64 0] _ rfl rfl hB (by simp) infoRntA (by simp [Value.oneCell']) ?_;intro W5 hB3 hBg hBs)
   replace hB3:BoxAt W5 W0.heap.size [.slice none 0 0,.slice none 0 0,.slice none 0 0,.slice none 0 0,.slice none 0 0,.slice none 0 0,.slice none 0 0,.slice none 0 0,.int .i64 0,.slice none 0 0,.slice none 0 0,.int .i64 0,.slice none 0 0,.slice none 0 0,.int .i64 0]:=hB3
   have hx4:=hX.own hBg (fun g hg=>by cases hg;omega)
   go_wp2
   refine bodyPost_ret (v:=.tuple #[.agg #[.slice none 0 0,.slice none 0 0,.slice none 0 0,.slice none 0 0,.slice none 0 0,.slice none 0 0,.slice none 0 0,.slice none 0 0,.int .i64 0,.slice none 0 0,.slice none 0 0,.int .i64 0,.slice none 0 0,.slice none 0 0,.int .i64 0],.bool false]) ?_ rfl ⟨[.slice none 0 0,.slice none 0 0,.slice none 0 0,.slice none 0 0,.slice none 0 0,.slice none 0 0,.slice none 0 0,.slice none 0 0,.int .i64 0,.slice none 0 0,.slice none 0 0,.int .i64 0,.slice none 0 0,.slice none 0 0,.int .i64 0],rfl,?_,hx4⟩
   ·exact results_two hB3 _ Tryz.results31 rfl rfl Tryz.underlying46 rfl infoRntA
   ·rw [HC.out]
    exact (rnt0O (Below.size hx4))
  ·go_wp2_with (refine wpList_load_box rfl 46 (.tmp 10) rfl W1.heap.size 0 [.slice ya0 sig.length yk0,.slice yb0 s.tops.length yl0,.slice yb1 s.nest.length yl1,.slice yb2 s.sorts.length yl2,.slice yb3 s.most.length yl3,.slice yb4 s.apart.length yl4,.slice ya6 rules.length yk6,.slice ya7 hosts.length yk7,.int .i64 hosts.length,.slice none 0 0,.slice none 0 0,.int .i64 0,.slice none 0 0,.slice none 0 0,.int .i64 0] _ rfl hT (fun j v hj=>by simpa using hj) _ Tryz.underlying46 rfl infoRntA ?_;simp only [Act.put,aput])
   refine (c_impl_ownRuntime lo hi _ (rntOf sig s rules hosts) _ HR15 hwt).mono ?_
   rintro e W4 ⟨ds,rfl,hD,hc⟩
   obtain ⟨_,_,_,_,_,rfl,⟨za0,zk0,rfl,_⟩,⟨_,_,_,_,_,rfl,⟨zb0,zl0,rfl,_⟩,⟨zb1,zl1,rfl,_⟩,⟨zb2,zl2,rfl,_⟩,⟨zb3,zl3,rfl,_⟩,⟨zb4,zl4,rfl,_⟩⟩,⟨za6,zk6,rfl,_⟩,⟨za7,zk7,rfl,_⟩,⟨_,_,_,_,rfl,_,_,⟨za1,zk1,rfl,_⟩,⟨za2,zk2,rfl,_⟩,⟨za4,zk4,rfl,_⟩,⟨za5,zk5,rfl,_⟩⟩,_⟩:=id (RntO.toP hD)
   replace hB:=hB.ext hc
   have hz4:=Below.size hc
   go_wp2_with (refine wpList_store_box rfl 46 (.tmp 8) (.tmp 24) rfl W0.heap.size 0 [.slice za0 (rntOf sig s rules hosts).sig.length zk0,.slice zb0 (rntOf sig s rules hosts).sort.tops.length zl0,.slice zb1 (rntOf sig s rules hosts).sort.nest.length zl1,.slice zb2 (rntOf sig s rules hosts).sort.sorts.length zl2,.slice zb3 (rntOf sig s rules hosts).sort.most.length zl3,.slice zb4 (rntOf sig s rules hosts).sort.apart.length zl4,.slice za6 (rntOf sig s rules hosts).rules.length zk6,.slice za7 (rntOf sig s rules hosts).hosts.length zk7,.int .i64 (rntOf sig s rules hosts).agent.roots,.slice za1 (rntOf sig s rules hosts).agent.nodes.length zk1,.slice za2 (rntOf sig s rules hosts).agent.sites.length zk2,.int .i64 (rntOf sig s rules hosts).agent.edges,.slice za4 (rntOf sig s rules hosts).agent.outer.length zk4,.slice za5 (rntOf sig s rules hosts).agent.inner.length zk5,.int .i64 (rntOf sig s rules hosts).count] _ rfl rfl hB (by simp) infoRntA (by simp [Value.oneCell']) ?_;intro W5 hB3 hBg hBs)
   replace hB3:BoxAt W5 W0.heap.size [.slice za0 (rntOf sig s rules hosts).sig.length zk0,.slice zb0 (rntOf sig s rules hosts).sort.tops.length zl0,.slice zb1 (rntOf sig s rules hosts).sort.nest.length zl1,.slice zb2 (rntOf sig s rules hosts).sort.sorts.length zl2,.slice zb3 (rntOf sig s rules hosts).sort.most.length zl3,.slice zb4 (rntOf sig s rules hosts).sort.apart.length zl4,.slice za6 (rntOf sig s rules hosts).rules.length zk6,.slice za7 (rntOf sig s rules hosts).hosts.length zk7,.int .i64 (rntOf sig s rules hosts).agent.roots,.slice za1 (rntOf sig s rules hosts).agent.nodes.length zk1,.slice za2 (rntOf sig s rules hosts).agent.sites.length zk2,.int .i64 (rntOf sig s rules hosts).agent.edges,.slice za4 (rntOf sig s rules hosts).agent.outer.length zk4,.slice za5 (rntOf sig s rules hosts).agent.inner.length zk5,.int .i64 (rntOf sig s rules hosts).count]:=hB3
   have hx4:=(hX.trans hc).own hBg (fun g hg=>by cases hg;omega)
   have hD4:=RntO.keepsO.grown hD hBg (fun g hg=>by cases hg;omega)
   go_wp2
   refine bodyPost_ret (v:=.tuple #[.agg #[.slice za0 (rntOf sig s rules hosts).sig.length zk0,.slice zb0 (rntOf sig s rules hosts).sort.tops.length zl0,.slice zb1 (rntOf sig s rules hosts).sort.nest.length zl1,.slice zb2 (rntOf sig s rules hosts).sort.sorts.length zl2,.slice zb3 (rntOf sig s rules hosts).sort.most.length zl3,.slice zb4 (rntOf sig s rules hosts).sort.apart.length zl4,.slice za6 (rntOf sig s rules hosts).rules.length zk6,.slice za7 (rntOf sig s rules hosts).hosts.length zk7,.int .i64 (rntOf sig s rules hosts).agent.roots,.slice za1 (rntOf sig s rules hosts).agent.nodes.length zk1,.slice za2 (rntOf sig s rules hosts).agent.sites.length zk2,.int .i64 (rntOf sig s rules hosts).agent.edges,.slice za4 (rntOf sig s rules hosts).agent.outer.length zk4,.slice za5 (rntOf sig s rules hosts).agent.inner.length zk5,.int .i64 (rntOf sig s rules hosts).count],.bool true]) ?_ rfl ⟨[.slice za0 (rntOf sig s rules hosts).sig.length zk0,.slice zb0 (rntOf sig s rules hosts).sort.tops.length zl0,.slice zb1 (rntOf sig s rules hosts).sort.nest.length zl1,.slice zb2 (rntOf sig s rules hosts).sort.sorts.length zl2,.slice zb3 (rntOf sig s rules hosts).sort.most.length zl3,.slice zb4 (rntOf sig s rules hosts).sort.apart.length zl4,.slice za6 (rntOf sig s rules hosts).rules.length zk6,.slice za7 (rntOf sig s rules hosts).hosts.length zk7,.int .i64 (rntOf sig s rules hosts).agent.roots,.slice za1 (rntOf sig s rules hosts).agent.nodes.length zk1,.slice za2 (rntOf sig s rules hosts).agent.sites.length zk2,.int .i64 (rntOf sig s rules hosts).agent.edges,.slice za4 (rntOf sig s rules hosts).agent.outer.length zk4,.slice za5 (rntOf sig s rules hosts).agent.inner.length zk5,.int .i64 (rntOf sig s rules hosts).count],rfl,?_,hx4⟩
   ·exact results_two hB3 _ Tryz.results31 rfl rfl Tryz.underlying46 rfl infoRntA
   ·rw [HC.out]
    exact RntO.widens _ _ _ _ _ _ _ (by omega) (by omega) hD4
end Go.Proofs.YtccjepndhlobpaaGreatDoor
