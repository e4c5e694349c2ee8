/-
  Walks: the reference's runtimes in memory of their own.
-/
import Derived.Test.YtccjepndhlobpaaGreatDoorV34
import Derived.Test.YtccjepndhlobpaaGreatDoorV32
namespace Go.Proofs.YtccjepndhlobpaaGreatDoor
open Go.RowKit
set_option linter.unusedVariables false
set_option linter.unusedSimpArgs false
set_option maxRecDepth 100000
set_option maxHeartbeats 6400000
theorem RntP.widens:Widens RntP:=by
 rintro lo hi lo' hi' w cs r h1 h2 ⟨v0,c1,v6,v7,c8,rfl,a,b,c,d,e,f⟩
 exact ⟨v0,c1,v6,v7,c8,rfl,a.widens CtlP.widens h1 h2,SrtP.widens _ _ _ _ _ _ _ h1 h2 b,c.widens RulP.widens h1 h2,d.widens StrP.widens h1 h2,BigP.widens _ _ _ _ _ _ _ h1 h2 e,f⟩
theorem infoRntA:(Tryz.prog.info? 46).map (·.size)=some 15:=by kernel_rfl
def RRnt (r:Rnt):Value→Nat→Nat→World→Prop:=fun v l u w=>∃ds,v=.agg ds.toArray∧RntP l u w ds r
theorem c_spec_l13Own (lo hi:Nat) (cs:List Value) (r:Rnt) (w:World) (h:RntP lo hi w cs r) (hwt:wtRnt r≤1048576) (hr:rntB r=true) :
 Calls Tryz.prog 73 #[.agg cs.toArray] w fun e w'=>∃v,e=.returned v∧RRnt r v w.heap.size w'.heap.size w'∧Ext w w':=by
 have ok1:OwnOk r.agent:=own_of (rntB_big hr)
 have ok2:∀x∈r.rules,OwnOk x.redex∧OwnOk x.reactum:=fun x hx=>by
  have h1:=(rntB_parts hr).2.1
  unfold rulesB at h1
  rw [Bool.and_eq_true,List.all_eq_true] at h1
  have h2:=h1.2 x hx
  unfold ruleB at h2
  simp only [Bool.and_eq_true] at h2
  exact ⟨own_of h2.1.1,own_of h2.1.2⟩
 clear hr
 have hw:wtRnt r=wtL wtCtl r.sig+wtSrt r.sort+wtL wtRul r.rules+wtL wtStr r.hosts+wtBig r.agent:=rfl
 have hw0:r.sig.length≤wtL wtCtl r.sig:=by unfold wtL;omega
 have hw7:r.hosts.length≤wtL wtStr r.hosts:=by unfold wtL;omega
 obtain ⟨ic,hic,hc0,hc1,hc2⟩:=info_parts infoCtl
 obtain ⟨is,his,hs0,hs1,hs2⟩:=info_parts infoStr
 obtain ⟨v0,c1,v6,v7,c8,rfl,E0,E1,E6,E7,E8,Ec⟩:=h
 obtain ⟨ya0,yk0,rfl⟩:∃a k,v0=.slice a r.sig.length k:=by (obtain ⟨a,k,rfl,_⟩:=E0;exact ⟨a,k,rfl⟩)
 obtain ⟨ya6,yk6,rfl⟩:∃a k,v6=.slice a r.rules.length k:=by (obtain ⟨a,k,rfl,_⟩:=E6;exact ⟨a,k,rfl⟩)
 obtain ⟨ya7,yk7,rfl⟩:∃a k,v7=.slice a r.hosts.length k:=by (obtain ⟨a,k,rfl,_⟩:=E7;exact ⟨a,k,rfl⟩)
 obtain ⟨yb0,yl0,yb1,yl1,yb2,yl2,yb3,yl3,yb4,yl4,rfl⟩:∃yb0 yl0 yb1 yl1 yb2 yl2 yb3 yl3 yb4 yl4,c1 = [.slice yb0 r.sort.tops.length yl0,.slice yb1 r.sort.nest.length yl1,.slice yb2 r.sort.sorts.length yl2,.slice yb3 r.sort.most.length yl3,.slice yb4 r.sort.apart.length yl4]:=by (obtain ⟨_,_,_,_,_,rfl,⟨yb0,yl0,rfl,_⟩,⟨yb1,yl1,rfl,_⟩,⟨yb2,yl2,rfl,_⟩,⟨yb3,yl3,rfl,_⟩,⟨yb4,yl4,rfl,_⟩⟩:=E1;exact ⟨_,_,_,_,_,_,_,_,_,_,rfl⟩)
 obtain ⟨ya1,yk1,ya2,yk2,ya4,yk4,ya5,yk5,rfl⟩:∃ya1 yk1 ya2 yk2 ya4 yk4 ya5 yk5,c8 = [.int .i64 r.agent.roots,.slice ya1 r.agent.nodes.length yk1,.slice ya2 r.agent.sites.length yk2,.int .i64 r.agent.edges,.slice ya4 r.agent.outer.length yk4,.slice ya5 r.agent.inner.length yk5]:=by (obtain ⟨_,_,_,_,rfl,_,_,⟨ya1,yk1,rfl,_⟩,⟨ya2,yk2,rfl,_⟩,⟨ya4,yk4,rfl,_⟩,⟨ya5,yk5,rfl,_⟩⟩:=E8;exact ⟨_,_,_,_,_,_,_,_,rfl⟩)
 change Calls Tryz.prog 73 #[.agg #[.slice ya0 r.sig.length yk0,.slice yb0 r.sort.tops.length yl0,.slice yb1 r.sort.nest.length yl1,.slice yb2 r.sort.sorts.length yl2,.slice yb3 r.sort.most.length yl3,.slice yb4 r.sort.apart.length yl4,.slice ya6 r.rules.length yk6,.slice ya7 r.hosts.length yk7,.int .i64 r.agent.roots,.slice ya1 r.agent.nodes.length yk1,.slice ya2 r.agent.sites.length yk2,.int .i64 r.agent.edges,.slice ya4 r.agent.outer.length yk4,.slice ya5 r.agent.inner.length yk5,.int .i64 r.count]] w _
 obtain ⟨W0,hW0,hbx,hx0,hz⟩:=box_facts w [.slice ya0 r.sig.length yk0,.slice yb0 r.sort.tops.length yl0,.slice yb1 r.sort.nest.length yl1,.slice yb2 r.sort.sorts.length yl2,.slice yb3 r.sort.most.length yl3,.slice yb4 r.sort.apart.length yl4,.slice ya6 r.rules.length yk6,.slice ya7 r.hosts.length yk7,.int .i64 r.agent.roots,.slice ya1 r.agent.nodes.length yk1,.slice ya2 r.agent.sites.length yk2,.int .i64 r.agent.edges,.slice ya4 r.agent.outer.length yk4,.slice ya5 r.agent.inner.length yk5,.int .i64 r.count] 46
 obtain ⟨W1,hW1,hby,hx1,hy⟩:=box_facts W0 [.slice none 0 0,.slice none 0 0,.slice none 0 0,.slice none 0 0,.slice none 0 0,.slice none 0 0,.slice none 0 0,.slice none 0 0,.int .i64 0,.slice none 0 0,.slice none 0 0,.int .i64 0,.slice none 0 0,.slice none 0 0,.int .i64 0] 46
 have hX1:=hx0.trans hx1
 have p0:=hx1.keep (hbx 0 _ rfl).1;have p1:=hx1.keep (hbx 1 _ rfl).1;have p2:=hx1.keep (hbx 2 _ rfl).1;have p3:=hx1.keep (hbx 3 _ rfl).1;have p4:=hx1.keep (hbx 4 _ rfl).1;have p5:=hx1.keep (hbx 5 _ rfl).1;have p6:=hx1.keep (hbx 6 _ rfl).1;have p7:=hx1.keep (hbx 7 _ rfl).1;have p8:=hx1.keep (hbx 8 _ rfl).1;have p9:=hx1.keep (hbx 9 _ rfl).1;have p10:=hx1.keep (hbx 10 _ rfl).1;have p11:=hx1.keep (hbx 11 _ rfl).1;have p12:=hx1.keep (hbx 12 _ rfl).1;have p13:=hx1.keep (hbx 13 _ rfl).1;have p14:=hx1.keep (hbx 14 _ rfl).1
 have hw01:w.heap.size<W0.heap.size:=by omega
 have hw12:W0.heap.size<W1.heap.size:=by omega
 replace E0:=SlV.ext CtlP.keeps E0 hX1;replace E6:=SlV.ext RulP.keeps E6 hX1;replace E7:=SlV.ext StrP.keeps E7 hX1
 replace E1:=SrtP.keeps _ _ _ _ _ _ (Same.ext hX1) E1
 replace E8:=BigP.keeps _ _ _ _ _ _ (Same.ext hX1) E8
 have K0:=(Kn.none (W:=W1)).cell p0
 have K1:=(((((Kn.none (W:=W1)).cell p1).cell p2).cell p3).cell p4).cell p5
 have K6:=(Kn.none (W:=W1)).cell p6
 have K7:=(Kn.none (W:=W1)).cell p7
 have K8:=((((((Kn.none (W:=W1)).cell p8).cell p9).cell p10).cell p11).cell p12).cell p13
 have K14:=(Kn.none (W:=W1)).cell p14
 clear hbx hz hy p0 p1 p2 p3 p4 p5 p6 p7 p8 p9 p10 p11 p12 p13 p14
 go_enter Tryz.func73,Tryz.ntmps73
 go_wp2_with fail
 (try rw [hW1])
 clear hW0 hW1
 refine region_mono 20 [20] (by kernel_rfl) (by kernel_rfl) ?_
 refine mNew 0 116 ?_
 refine mP ?_
 refine mL K0 ?_
 refine mCopy 3 CtlP.flat CtlP.ones 0 (.tmp 3) (.tmp 5) 38 116 ic _ 32 r.sig lo hi _ E0 (by omega) hic hc0 hc1 hc2 ?_
 refine mP ?_
 refine mL K1 ?_
 refine mCall 6 (RSrt r.sort) 129 (RSrt.stays _) (fun _=>#[.agg #[.slice yb0 r.sort.tops.length yl0,.slice yb1 r.sort.nest.length yl1,.slice yb2 r.sort.sorts.length yl2,.slice yb3 r.sort.most.length yl3,.slice yb4 r.sort.apart.length yl4]]) (fun vs l u w hx hf=>c_spec_l13Sorting lo hi _ r.sort w (SrtP.keeps _ _ _ _ _ _ (Same.ext hx) E1) (by omega)) ?_
 refine mP ?_
 refine mL K6 ?_
 refine mCall 9 (RVal 13 RulP r.rules) 130 (RVal.stays RulP.keeps _) (fun _=>#[.slice ya6 r.rules.length yk6]) (fun vs l u w hx hf=>c_spec_l13Rules lo hi _ r.rules w (E6.ext RulP.keeps hx) (by omega) ok2) ?_
 refine mNew 10 9 ?_
 refine mP ?_
 refine mL K7 ?_
 refine mCopy 13 StrP.flat StrP.ones 10 (.tmp 13) (.tmp 15) 29 9 is _ 16 r.hosts lo hi _ E7 (by omega) his hs0 hs1 hs2 ?_
 refine mP ?_
 refine mL K8 ?_
 refine mCall 16 (RBig r.agent) 131 (RBig.stays _) (fun _=>#[.agg #[.int .i64 r.agent.roots,.slice ya1 r.agent.nodes.length yk1,.slice ya2 r.agent.sites.length yk2,.int .i64 r.agent.edges,.slice ya4 r.agent.outer.length yk4,.slice ya5 r.agent.inner.length yk5]]) (fun vs l u w hx hf=>c_spec_l2Own lo hi _ r.agent w (BigP.keeps _ _ _ _ _ _ (Same.ext hx) E8) (by omega) ok1) ?_
 refine mP ?_
 refine mL K14 ?_
 refine mF 19 (fun vs=>.agg ((vs 3).cells++(vs 6).cells++(vs 9).cells++(vs 13).cells++(vs 16).cells ++ #[.int .i64 r.count])) ?_ ?_
 ·intro vs l u w hx hf
  have h3:=hf.at 3
  have h6:=hf.at 6
  have h9:=hf.at 9
  have h13:=hf.at 13
  have h16:=hf.at 16
  obtain ⟨_,_,h3,_⟩:=h3
  obtain ⟨_,h6,⟨_,_,_,_,_,rfl,⟨zb0,zl0,rfl,_⟩,⟨zb1,zl1,rfl,_⟩,⟨zb2,zl2,rfl,_⟩,⟨zb3,zl3,rfl,_⟩,⟨zb4,zl4,rfl,_⟩⟩⟩:=h6
  obtain ⟨_,_,h9,_⟩:=h9
  obtain ⟨_,_,h13,_⟩:=h13
  obtain ⟨_,h16,⟨_,_,_,_,rfl,_,_,⟨za1,zk1,rfl,_⟩,⟨za2,zk2,rfl,_⟩,⟨za4,zk4,rfl,_⟩,⟨za5,zk5,rfl,_⟩⟩⟩:=h16
  rw [h3,h6,h9,h13,h16]
  go_simp
 intro vs l u W2 hk
 have hx2:=hk.ext
 obtain ⟨h3,b3⟩:=hk.at 3
 obtain ⟨h6,b6⟩:=hk.at 6
 obtain ⟨h9,b9⟩:=hk.at 9
 obtain ⟨h13,b13⟩:=hk.at 13
 obtain ⟨h16,b16⟩:=hk.at 16
 obtain ⟨za0,zk0,e3,_⟩:=id h3
 obtain ⟨d6,e6,h6⟩:=h6
 obtain ⟨_,_,_,_,_,rfl,⟨zb0,zl0,rfl,_⟩,⟨zb1,zl1,rfl,_⟩,⟨zb2,zl2,rfl,_⟩,⟨zb3,zl3,rfl,_⟩,⟨zb4,zl4,rfl,_⟩⟩:=id h6
 obtain ⟨za6,zk6,e9,_⟩:=id h9
 obtain ⟨za7,zk7,e13,_⟩:=id h13
 obtain ⟨d16,e16,h16⟩:=h16
 obtain ⟨_,_,_,_,rfl,_,_,⟨za1,zk1,rfl,_⟩,⟨za2,zk2,rfl,_⟩,⟨za4,zk4,rfl,_⟩,⟨za5,zk5,rfl,_⟩⟩:=id h16
 rw [e3] at h3;rw [e9] at h9;rw [e13] at h13
 simp only [e3,e6,e9,e13,e16]
 have hS:RntP W1.heap.size W2.heap.size W2 [.slice za0 r.sig.length zk0,.slice zb0 r.sort.tops.length zl0,.slice zb1 r.sort.nest.length zl1,.slice zb2 r.sort.sorts.length zl2,.slice zb3 r.sort.most.length zl3,.slice zb4 r.sort.apart.length zl4,.slice za6 r.rules.length zk6,.slice za7 r.hosts.length zk7,.int .i64 r.agent.roots,.slice za1 r.agent.nodes.length zk1,.slice za2 r.agent.sites.length zk2,.int .i64 r.agent.edges,.slice za4 r.agent.outer.length zk4,.slice za5 r.agent.inner.length zk5,.int .i64 r.count] r:=⟨_,[.slice zb0 r.sort.tops.length zl0,.slice zb1 r.sort.nest.length zl1,.slice zb2 r.sort.sorts.length zl2,.slice zb3 r.sort.most.length zl3,.slice zb4 r.sort.apart.length zl4],_,_,[.int .i64 r.agent.roots,.slice za1 r.agent.nodes.length zk1,.slice za2 r.agent.sites.length zk2,.int .i64 r.agent.edges,.slice za4 r.agent.outer.length zk4,.slice za5 r.agent.inner.length zk5],rfl,(CtlsO.toV h3).widens CtlP.widens b3.1 b3.2.2,SrtP.widens _ _ _ _ _ _ _ b6.1 b6.2.2 h6,SlV.widens RulP.widens b9.1 b9.2.2 h9,(StrsO.toV h13).widens StrP.widens b13.1 b13.2.2,BigP.widens _ _ _ _ _ _ _ b16.1 b16.2.2 h16,Ec⟩
 have hX2:=hX1.trans hx2
 have hRB:=hby.ext hx2
 have hzx:=Below.size hx2
 clear hk K0 K1 K6 K7 K8 K14 e3 e6 e9 e13 e16 h3 h6 h9 h13 h16 b3 b6 b9 b13 b16
 simp only [picked,List.filterMap_cons,List.filterMap_nil]
 go_simp
 refine wpList_store_box rfl 46 (.tmp 2) (.tmp 22) rfl W0.heap.size 0 [.slice za0 r.sig.length zk0,.slice zb0 r.sort.tops.length zl0,.slice zb1 r.sort.nest.length zl1,.slice zb2 r.sort.sorts.length zl2,.slice zb3 r.sort.most.length zl3,.slice zb4 r.sort.apart.length zl4,.slice za6 r.rules.length zk6,.slice za7 r.hosts.length zk7,.int .i64 r.agent.roots,.slice za1 r.agent.nodes.length zk1,.slice za2 r.agent.sites.length zk2,.int .i64 r.agent.edges,.slice za4 r.agent.outer.length zk4,.slice za5 r.agent.inner.length zk5,.int .i64 r.count] _ rfl rfl hRB (by simp) infoRntA (by simp [Value.oneCell']) ?_
 intro W3 hB3 hgr hs3
 replace hB3:BoxAt W3 W0.heap.size [.slice za0 r.sig.length zk0,.slice zb0 r.sort.tops.length zl0,.slice zb1 r.sort.nest.length zl1,.slice zb2 r.sort.sorts.length zl2,.slice zb3 r.sort.most.length zl3,.slice zb4 r.sort.apart.length zl4,.slice za6 r.rules.length zk6,.slice za7 r.hosts.length zk7,.int .i64 r.agent.roots,.slice za1 r.agent.nodes.length zk1,.slice za2 r.agent.sites.length zk2,.int .i64 r.agent.edges,.slice za4 r.agent.outer.length zk4,.slice za5 r.agent.inner.length zk5,.int .i64 r.count]:=hB3
 have z0:=(hB3 0 _ rfl).1;have z1:=(hB3 1 _ rfl).1;have z2:=(hB3 2 _ rfl).1;have z3:=(hB3 3 _ rfl).1;have z4:=(hB3 4 _ rfl).1;have z5:=(hB3 5 _ rfl).1;have z6:=(hB3 6 _ rfl).1;have z7:=(hB3 7 _ rfl).1;have z8:=(hB3 8 _ rfl).1;have z9:=(hB3 9 _ rfl).1;have z10:=(hB3 10 _ rfl).1;have z11:=(hB3 11 _ rfl).1;have z12:=(hB3 12 _ rfl).1;have z13:=(hB3 13 _ rfl).1;have z14:=(hB3 14 _ rfl).1
 have hx3:=hX2.own hgr (fun g hg=>by cases hg;omega)
 go_wp2
 refine bodyPost_ret (v:=.agg #[.slice za0 r.sig.length zk0,.slice zb0 r.sort.tops.length zl0,.slice zb1 r.sort.nest.length zl1,.slice zb2 r.sort.sorts.length zl2,.slice zb3 r.sort.most.length zl3,.slice zb4 r.sort.apart.length zl4,.slice za6 r.rules.length zk6,.slice za7 r.hosts.length zk7,.int .i64 r.agent.roots,.slice za1 r.agent.nodes.length zk1,.slice za2 r.agent.sites.length zk2,.int .i64 r.agent.edges,.slice za4 r.agent.outer.length zk4,.slice za5 r.agent.inner.length zk5,.int .i64 r.count]) ?_ rfl ⟨_,rfl,⟨[.slice za0 r.sig.length zk0,.slice zb0 r.sort.tops.length zl0,.slice zb1 r.sort.nest.length zl1,.slice zb2 r.sort.sorts.length zl2,.slice zb3 r.sort.most.length zl3,.slice zb4 r.sort.apart.length zl4,.slice za6 r.rules.length zk6,.slice za7 r.hosts.length zk7,.int .i64 r.agent.roots,.slice za1 r.agent.nodes.length zk1,.slice za2 r.agent.sites.length zk2,.int .i64 r.agent.edges,.slice za4 r.agent.outer.length zk4,.slice za5 r.agent.inner.length zk5,.int .i64 r.count],rfl,?_⟩,hx3⟩
 ·simp [results,Tryz.results73,go_sem,z0,z1,z2,z3,z4,z5,z6,z7,z8,z9,z10,z11,z12,z13,z14]
 ·exact RntP.widens _ _ _ _ _ _ _ (show w.heap.size≤W1.heap.size by omega) (show W2.heap.size≤_ by omega) (RntP.keeps _ _ _ _ _ _ (Same.grown hgr (.inl (by omega))) hS)
end Go.Proofs.YtccjepndhlobpaaGreatDoor
