/-
  The law FnExactNewRuntime, walked.
-/
import Derived.Test.YtccjepndhlobpaaGreatDoorV38
import Derived.Test.YtccjepndhlobpaaGreatDoorS1
import Derived.Test.YtccjepndhlobpaaGreatDoorS2
import Derived.Test.YtccjepndhlobpaaGreatDoorS3
import Derived.Test.YtccjepndhlobpaaGreatDoorS4
import Derived.Test.YtccjepndhlobpaaGreatDoorS5
import Derived.Deep.RegionWith
import Derived.Deep.DrawnRows
import Derived.Deep.RegionHeld3
import Derived.Deep.DeepMust
import Derived.Deep.Cut
namespace Go.Proofs.YtccjepndhlobpaaGreatDoor
open Go.RowKit
set_option linter.unusedVariables false
set_option linter.unusedSimpArgs false
theorem infoSrtL:(Tryz.prog.info? 27).map (·.size)=some 5:=by kernel_rfl
theorem newSpec {l0 r0 l1 r1 l2 r2 l3 r3:Nat} {v0 v6 v7:Value} {cs:List Value} {sig:List Ctl} {s:Srt} {rules:List Rul} {hosts:List ByteArray} {w:World} {bb:Bool} {N:Rnt} (h0:CtlsO l0 r0 w v0 sig) (h1:SrtO l1 r1 w cs s) (h6:RulsO l2 r2 w v6 rules) (h7:StrsO l3 r3 w v7 hosts) (hwt:wtRnt (rntOf sig s rules hosts)≤1048576) (hb:rntB (rntOf sig s rules hosts)=bb) (hN:rntNew sig s rules hosts=N) :
 Calls Tryz.prog 26 #[v0,.agg cs.toArray,v6,v7] w fun e w'=>∃ds,e=.returned (.tuple #[.agg ds.toArray,.bool bb])∧RntP w.heap.size w'.heap.size w' ds N∧Ext w w':=by
 subst hb hN
 refine (c_spec_NewRuntime 0 (r0+r1+r2+r3) v0 v6 v7 cs sig s rules hosts w ((CtlsO.toV h0).widens CtlP.widens (Nat.zero_le _) (by omega)) (SrtP.widens _ _ _ _ _ _ _ (Nat.zero_le _) (by omega) (SrtO.toP h1)) ((RulsO.toV h6).widens RulP.widens (Nat.zero_le _) (by omega)) ((StrsO.toV h7).widens StrP.widens (Nat.zero_le _) (by omega)) hwt).mono ?_
 rintro e w' ⟨ds,he,hD,hx⟩
 exact ⟨ds,he,hD,hx⟩
theorem newImpl {l0 r0 l1 r1 l2 r2 l3 r3:Nat} {v0 v6 v7:Value} {cs:List Value} {sig:List Ctl} {s:Srt} {rules:List Rul} {hosts:List ByteArray} {w:World} {bb:Bool} {N:Rnt} (h0:CtlsO l0 r0 w v0 sig) (h1:SrtO l1 r1 w cs s) (h6:RulsO l2 r2 w v6 rules) (h7:StrsO l3 r3 w v7 hosts) (hwt:wtRnt (rntOf sig s rules hosts)≤1048576) (hb:rntB (rntOf sig s rules hosts)=bb) (hN:rntNew sig s rules hosts=N) :
 Calls Tryz.prog 31 #[v0,.agg cs.toArray,v6,v7] w fun e w'=>∃ds,e=.returned (.tuple #[.agg ds.toArray,.bool bb])∧RntO w.heap.size w'.heap.size w' ds N∧Ext w w':=by
 subst hb hN
 refine (c_impl_NewRuntime 0 (r0+r1+r2+r3) v0 v6 v7 cs sig s rules hosts w ((CtlsO.toV h0).widens CtlP.widens (Nat.zero_le _) (by omega)) (SrtP.widens _ _ _ _ _ _ _ (Nat.zero_le _) (by omega) (SrtO.toP h1)) ((RulsO.toV h6).widens RulP.widens (Nat.zero_le _) (by omega)) ((StrsO.toV h7).widens StrP.widens (Nat.zero_le _) (by omega)) hwt).mono ?_
 rintro e w' ⟨ds,he,hD,hx⟩
 exact ⟨ds,he,hD,hx⟩
theorem newImplP {l0 r0 l1 r1 l2 r2 l3 r3:Nat} {v0 v6 v7:Value} {cs:List Value} {sig:List Ctl} {s:Srt} {rules:List Rul} {hosts:List ByteArray} {w:World} {bb:Bool} {N:Rnt} (h0:CtlsO l0 r0 w v0 sig) (h1:SrtO l1 r1 w cs s) (h6:RulsO l2 r2 w v6 rules) (h7:StrsO l3 r3 w v7 hosts) (hwt:wtRnt (rntOf sig s rules hosts)≤1048576) (hb:rntB (rntOf sig s rules hosts)=bb) (hN:rntNew sig s rules hosts=N) :
 Calls Tryz.prog 31 #[v0,.agg cs.toArray,v6,v7] w fun e w'=>∃ds,e=.returned (.tuple #[.agg ds.toArray,.bool bb])∧RntP w.heap.size w'.heap.size w' ds N∧Ext w w':=by
 subst hb hN
 refine (c_impl_NewRuntime 0 (r0+r1+r2+r3) v0 v6 v7 cs sig s rules hosts w ((CtlsO.toV h0).widens CtlP.widens (Nat.zero_le _) (by omega)) (SrtP.widens _ _ _ _ _ _ _ (Nat.zero_le _) (by omega) (SrtO.toP h1)) ((RulsO.toV h6).widens RulP.widens (Nat.zero_le _) (by omega)) ((StrsO.toV h7).widens StrP.widens (Nat.zero_le _) (by omega)) hwt).mono ?_
 rintro e w' ⟨ds,he,hD,hx⟩
 exact ⟨ds,he,RntO.toP hD,hx⟩
theorem wt_of (sig:List Ctl) (s:Srt) (rules:List Rul) (hosts:List ByteArray):wtRnt (rntOf sig s rules hosts)=wtL wtCtl sig+wtSrt s+wtL wtRul rules+wtL wtStr hosts+0:=rfl
theorem c_of (sig:List Ctl) (s:Srt) (rules:List Rul) (hosts:List ByteArray):cRnt (rntOf sig s rules hosts)=cnL c3 sig+cSrt s+cnL cRulR rules+cnL c1 hosts+0:=rfl
attribute [local irreducible] rntNew rntOf rntB cRnt mkRnt cSrt cnL
set_option maxRecDepth 100000 in
set_option maxHeartbeats 12800000 in
theorem law_FnExactNewRuntime (v0:Value) (sig:List Ctl) (cs:List Value) (s:Srt) (v6:Value) (rules:List Rul) (v7:Value) (hosts:List ByteArray) (w:World) (H0:CtlsV 0 w.heap.size w v0 sig) (h1:SrtP 0 w.heap.size w cs s) (H6:RulsV 0 w.heap.size w v6 rules) (H7:StrsV 0 w.heap.size w v7 hosts) :
 Calls Tryz.prog 6 #[v0,.agg cs.toArray,v6,v7] w fun e w'=>e=.returned (.bool true)∧Ext w w':=by
 have H1:=h1
 obtain ⟨_,_,_,_,_,rfl,⟨yb0,yl0,rfl,_⟩,⟨yb1,yl1,rfl,_⟩,⟨yb2,yl2,rfl,_⟩,⟨yb3,yl3,rfl,_⟩,⟨yb4,yl4,rfl,_⟩⟩:=h1
 change Calls Tryz.prog 6 #[v0,.agg #[.slice yb0 s.tops.length yl0,.slice yb1 s.nest.length yl1,.slice yb2 s.sorts.length yl2,.slice yb3 s.most.length yl3,.slice yb4 s.apart.length yl4],v6,v7] w _
 obtain ⟨W0,hW0,hA,hx0,hz⟩:=box_facts w [.slice yb0 s.tops.length yl0,.slice yb1 s.nest.length yl1,.slice yb2 s.sorts.length yl2,.slice yb3 s.most.length yl3,.slice yb4 s.apart.length yl4] 27
 have hX:=hx0
 replace H0:=H0.ext CtlP.keeps hx0
 replace H1:=SrtP.keeps _ _ _ _ _ _ (Same.ext hx0) H1
 replace H6:=H6.ext RulP.keeps hx0
 replace H7:=H7.ext StrP.keeps hx0
 have hzW0:w.heap.size<W0.heap.size:=by omega
 clear hz
 go_enter Tryz.func6,Tryz.ntmps6
 clear hx0
 go_wp2_with fail
 refine (c_laws_szControlS 0 w.heap.size _ sig (1048576) _ H0 (by omega) (by omega)).mono ?_
 rintro e z0 ⟨rfl,hb0⟩
 have hs0:=Below.size hb0
 replace hA:=hA.ext hb0
 replace H0:=H0.ext CtlP.keeps hb0
 replace H1:=SrtP.keeps _ _ _ _ _ _ (Same.ext hb0) H1
 replace H6:=H6.ext RulP.keeps hb0
 replace H7:=H7.ext StrP.keeps hb0
 replace hX:=hX.trans hb0
 clear hb0
 clear hW0
 by_cases hw0:((wtL wtCtl sig:Nat):Int)≤1048576
 rotate_left
 ·rw [szR_neg hw0]
  go_wp2
  go_ret
  exact ⟨rfl,hX⟩
 rw [szR_pos hw0]
 go_wp2_with (refine wpList_load_all rfl 27 (.tmp 5) rfl hA rfl Tryz.underlying27 rfl infoSrtL ?_;simp only [Act.put,aput])
 refine (c_laws_szSorting 0 w.heap.size _ s (1048576 - ((wtL wtCtl sig:Nat):Int)) _ H1 (by omega) (by omega)).mono ?_
 rintro e z1 ⟨rfl,hb1⟩
 have hs1:=Below.size hb1
 replace hA:=hA.ext hb1
 replace H0:=H0.ext CtlP.keeps hb1
 replace H1:=SrtP.keeps _ _ _ _ _ _ (Same.ext hb1) H1
 replace H6:=H6.ext RulP.keeps hb1
 replace H7:=H7.ext StrP.keeps hb1
 replace hX:=hX.trans hb1
 clear hb1
 by_cases hw1:((wtSrt s:Nat):Int)≤1048576 - ((wtL wtCtl sig:Nat):Int)
 rotate_left
 ·rw [szR_neg hw1]
  go_wp2
  go_ret
  exact ⟨rfl,hX⟩
 rw [szR_pos hw1]
 go_wp2_with fail
 refine (c_laws_szRuleS 0 w.heap.size _ rules (1048576 - ((wtL wtCtl sig:Nat):Int) - ((wtSrt s:Nat):Int)) _ H6 (by omega) (by omega)).mono ?_
 rintro e z2 ⟨rfl,hb2⟩
 have hs2:=Below.size hb2
 replace hA:=hA.ext hb2
 replace H0:=H0.ext CtlP.keeps hb2
 replace H1:=SrtP.keeps _ _ _ _ _ _ (Same.ext hb2) H1
 replace H6:=H6.ext RulP.keeps hb2
 replace H7:=H7.ext StrP.keeps hb2
 replace hX:=hX.trans hb2
 clear hb2
 by_cases hw2:((wtL wtRul rules:Nat):Int)≤1048576 - ((wtL wtCtl sig:Nat):Int) - ((wtSrt s:Nat):Int)
 rotate_left
 ·rw [szR_neg hw2]
  go_wp2
  go_ret
  exact ⟨rfl,hX⟩
 rw [szR_pos hw2]
 go_wp2_with fail
 refine (c_laws_szStringS 0 w.heap.size _ hosts (1048576 - ((wtL wtCtl sig:Nat):Int) - ((wtSrt s:Nat):Int) - ((wtL wtRul rules:Nat):Int)) _ H7 (by omega) (by omega)).mono ?_
 rintro e z3 ⟨rfl,hb3⟩
 have hs3:=Below.size hb3
 replace hA:=hA.ext hb3
 replace H0:=H0.ext CtlP.keeps hb3
 replace H1:=SrtP.keeps _ _ _ _ _ _ (Same.ext hb3) H1
 replace H6:=H6.ext RulP.keeps hb3
 replace H7:=H7.ext StrP.keeps hb3
 replace hX:=hX.trans hb3
 clear hb3
 by_cases hw3:((wtL wtStr hosts:Nat):Int)≤1048576 - ((wtL wtCtl sig:Nat):Int) - ((wtSrt s:Nat):Int) - ((wtL wtRul rules:Nat):Int)
 rotate_left
 ·rw [szR_neg hw3]
  go_wp2
  go_ret
  exact ⟨rfl,hX⟩
 rw [szR_pos hw3]
 have hwt:wtRnt (rntOf sig s rules hosts)≤1048576:=by
  have e:=wt_of sig s rules hosts
  omega
 obtain ⟨N,hN⟩:∃N,rntNew sig s rules hosts=N:=⟨_,rfl⟩
 have hwN:wtRnt N≤1048576:=by
  rw [← hN]
  unfold rntNew
  split
  ·exact hwt
  ·exact Nat.zero_le _
 have hcN:=cRnt_le N
 have hcr:=cRnt_le (rntOf sig s rules hosts)
 have hce:=c_of sig s rules hosts
 have hM:1+((cRnt N:Nat):Int)≤1000000000:=by omega
 have hn1:¬(1+((cRnt N:Nat):Int)<0):=by omega
 have hM0:1+((cnL c3 sig:Nat):Int)+((cSrt s:Nat):Int)+((cnL cRulR rules:Nat):Int)+((cnL c1 hosts:Nat):Int)≤1000000000:=by omega
 have hn2:¬(1+((cnL c3 sig:Nat):Int)+((cSrt s:Nat):Int)+((cnL cRulR rules:Nat):Int)+((cnL c1 hosts:Nat):Int)<0):=by omega
 clear hcN hcr hwN hce
 have HN:=Lib.hid hN
 obtain ⟨bb,hbb⟩:∃bb,rntB (rntOf sig s rules hosts)=bb:=⟨_,rfl⟩
 have HBB:=Lib.hid hbb
 clear hN hbb
 as_aux_lemma=>
  go_wp2_with fail
  refine region_loose 13 [11] [13,14] (by kernel_rfl) (by kernel_rfl) (fun _ _ _ d _ _ h=>by cases d <;> exact h) ?_
  refine mP ?_
  refine mCall 1 (ROwn 3 CtlP sig) 27 (ROwn.stays CtlP.keepsO _) (fun _=>#[v0]) (fun vs l u w1 hx hf=>c_laws_toControlS 0 w.heap.size _ sig _ (H0.ext CtlP.keeps hx) (by omega)) ?_
  refine mF 2 (fun _=>.agg #[.slice yb0 s.tops.length yl0,.slice yb1 s.nest.length yl1,.slice yb2 s.sorts.length yl2,.slice yb3 s.most.length yl3,.slice yb4 s.apart.length yl4]) ?_ ?_
  ·exact fun vs l u w1 hx hf=>exec_load_boxL 27 (.tmp 5) rfl w.heap.size [.slice yb0 s.tops.length yl0,.slice yb1 s.nest.length yl1,.slice yb2 s.sorts.length yl2,.slice yb3 s.most.length yl3,.slice yb4 s.apart.length yl4] rfl (hA.ext hx) _ Tryz.underlying27 rfl infoSrtL
  refine mCall 3 (RAgg SrtO s) 28 (RAgg.stays SrtO.keepsO _) (fun _=>#[.agg #[.slice yb0 s.tops.length yl0,.slice yb1 s.nest.length yl1,.slice yb2 s.sorts.length yl2,.slice yb3 s.most.length yl3,.slice yb4 s.apart.length yl4]]) (fun vs l u w1 hx hf=>(c_laws_toSorting 0 w.heap.size _ s _ (SrtP.keeps _ _ _ _ _ _ (Same.ext hx) H1) (by omega)).mono fun e w2 ⟨ds,h1,h2,h3⟩=>⟨_,h1,⟨ds,rfl,h2⟩,h3⟩) ?_
  refine mP ?_
  refine mCall 5 (ROwn 13 RulO rules) 29 (ROwn.stays RulO.keepsO _) (fun _=>#[v6]) (fun vs l u w1 hx hf=>c_laws_toRuleS 0 w.heap.size _ rules _ (H6.ext RulP.keeps hx) (by omega)) ?_
  refine mP ?_
  refine mCall 7 (ROwn 1 StrP hosts) 30 (ROwn.stays StrP.keepsO _) (fun _=>#[v7]) (fun vs l u w1 hx hf=>c_laws_toStringS 0 w.heap.size _ hosts _ (H7.ext StrP.keeps hx) (by omega)) ?_
  refine mCall 8 (RTup RntP N [.bool bb]) 26 (RTup.stays RntP.keeps.toO _ _) (fun vs=>#[vs 1,vs 3,vs 5,vs 7]) ?_ ?_
  ·intro vs l u w1 hx hf
   obtain ⟨ds,e3,h3⟩:=hf.at 3
   rw [e3]
   exact (newSpec (hf.at 1) h3 (hf.at 5) (hf.at 7) hwt HBB.out HN.out).mono fun e w2 ⟨ds,h1,h2,h3⟩=>⟨_,h1,⟨ds,rfl,h2⟩,h3⟩
  refine mP ?_
  refine mF 10 (fun vs=>tupAt (vs 8) 0) ?_ ?_
  ·intro vs l u w1 hx hf
   obtain ⟨ds,e8,h8⟩:=hf.at 8
   rw [e8]
   exact exec_extract (.tmp 43) 0 rfl rfl rfl rfl
  refine mF 11 (fun vs=>.bool bb) ?_ ?_
  ·intro vs l u w1 hx hf
   obtain ⟨ds,e8,h8⟩:=hf.at 8
   rw [e8]
   exact exec_extract (.tmp 43) 1 rfl rfl rfl rfl
  refine mBox 12 [.slice none 0 0,.slice none 0 0,.slice none 0 0,.slice none 0 0,.slice none 0 0,.slice none 0 0,.slice none 0 0,.slice none 0 0,.int .i64 0,.slice none 0 0,.slice none 0 0,.int .i64 0,.slice none 0 0,.slice none 0 0,.int .i64 0] ?_
  refine ⟨fun f hf=>(by rw [List.mem_singleton.1 hf];rfl),?_⟩
  intro vsp llp uup u4 hk
  have hbp:=hk.ext
  obtain ⟨⟨dp,ep,hP1⟩,f1p,f2p,f3p⟩:=hk.at 8
  obtain ⟨⟨Bp,ebp,f4p,f5p,hBB⟩,f6p,f7p,f8p⟩:=hk.at 12
  have hop:=hk.off 8 12
  simp only [Off] at hop
  clear hk
  obtain ⟨_,_,_,_,_,rfl,⟨pa0,pk0,rfl,_⟩,⟨_,_,_,_,_,rfl,⟨pb0,pl0,rfl,_⟩,⟨pb1,pl1,rfl,_⟩,⟨pb2,pl2,rfl,_⟩,⟨pb3,pl3,rfl,_⟩,⟨pb4,pl4,rfl,_⟩⟩,⟨pa6,pk6,rfl,_⟩,⟨pa7,pk7,rfl,_⟩,⟨_,_,_,_,rfl,_,_,⟨pa1,pk1,rfl,_⟩,⟨pa2,pk2,rfl,_⟩,⟨pa4,pk4,rfl,_⟩,⟨pa5,pk5,rfl,_⟩⟩,_⟩:=id hP1
  simp only [picked,List.filterMap_cons,List.filterMap_nil]
  go_simp
  refine wpList_store_box rfl 46 (.tmp 10) (.tmp 53) rfl Bp 0 [.slice pa0 N.sig.length pk0,.slice pb0 N.sort.tops.length pl0,.slice pb1 N.sort.nest.length pl1,.slice pb2 N.sort.sorts.length pl2,.slice pb3 N.sort.most.length pl3,.slice pb4 N.sort.apart.length pl4,.slice pa6 N.rules.length pk6,.slice pa7 N.hosts.length pk7,.int .i64 N.agent.roots,.slice pa1 N.agent.nodes.length pk1,.slice pa2 N.agent.sites.length pk2,.int .i64 N.agent.edges,.slice pa4 N.agent.outer.length pk4,.slice pa5 N.agent.inner.length pk5,.int .i64 N.count] _ rfl rfl hBB (by simp) infoRntA (by simp [Value.oneCell']) ?_
  intro u4s hW hg4 hs4
  replace hW:BoxAt u4s Bp [.slice pa0 N.sig.length pk0,.slice pb0 N.sort.tops.length pl0,.slice pb1 N.sort.nest.length pl1,.slice pb2 N.sort.sorts.length pl2,.slice pb3 N.sort.most.length pl3,.slice pb4 N.sort.apart.length pl4,.slice pa6 N.rules.length pk6,.slice pa7 N.hosts.length pk7,.int .i64 N.agent.roots,.slice pa1 N.agent.nodes.length pk1,.slice pa2 N.agent.sites.length pk2,.int .i64 N.agent.edges,.slice pa4 N.agent.outer.length pk4,.slice pa5 N.agent.inner.length pk5,.int .i64 N.count]:=hW
  replace hbp:=hbp.own hg4 (fun g hg=>by cases hg;omega)
  replace hP1:=RntP.keeps _ _ _ _ _ _ (Same.grown hg4 (by omega)) hP1
  clear hBB hg4 ep
  have hs4:=Below.size hbp
  replace hA:=hA.ext hbp
  replace H0:=H0.ext CtlP.keeps hbp
  replace H1:=SrtP.keeps _ _ _ _ _ _ (Same.ext hbp) H1
  replace H6:=H6.ext RulP.keeps hbp
  replace H7:=H7.ext StrP.keeps hbp
  replace hX:=hX.trans hbp
  clear hbp
  as_aux_lemma=>
   go_wp2_with fail
   refine (c_laws_toControlS 0 w.heap.size _ sig _ H0 (by omega)).mono ?_
   rintro e u5 ⟨x0,rfl,hO0,hb5⟩
   have hs5:=Below.size hb5
   replace hA:=hA.ext hb5
   replace H0:=H0.ext CtlP.keeps hb5
   replace H1:=SrtP.keeps _ _ _ _ _ _ (Same.ext hb5) H1
   replace H6:=H6.ext RulP.keeps hb5
   replace H7:=H7.ext StrP.keeps hb5
   replace hX:=hX.trans hb5
   replace hW:=hW.ext hb5
   replace hP1:=RntP.keeps _ _ _ _ _ _ (Same.ext hb5) hP1
   clear hb5
   go_wp2_with (refine wpList_load_all rfl 27 (.tmp 5) rfl hA rfl Tryz.underlying27 rfl infoSrtL ?_;simp only [Act.put,aput])
   refine (c_laws_toSorting 0 w.heap.size _ s _ H1 (by omega)).mono ?_
   rintro e u6 ⟨d1,rfl,hO1,hb6⟩
   have hs6:=Below.size hb6
   replace hA:=hA.ext hb6
   replace H0:=H0.ext CtlP.keeps hb6
   replace H1:=SrtP.keeps _ _ _ _ _ _ (Same.ext hb6) H1
   replace H6:=H6.ext RulP.keeps hb6
   replace H7:=H7.ext StrP.keeps hb6
   replace hX:=hX.trans hb6
   replace hW:=hW.ext hb6
   replace hP1:=RntP.keeps _ _ _ _ _ _ (Same.ext hb6) hP1
   replace hO0:=hO0.ext CtlP.keepsO hb6
   clear hb6
   obtain ⟨_,_,_,_,_,rfl,⟨xb0,xl0,rfl,_⟩,⟨xb1,xl1,rfl,_⟩,⟨xb2,xl2,rfl,_⟩,⟨xb3,xl3,rfl,_⟩,⟨xb4,xl4,rfl,_⟩⟩:=id (SrtO.toP hO1)
   as_aux_lemma=>
    go_wp2_with (refine wpList_store_box rfl 39 (.tmp 13) (.tmp 58) rfl u6.heap.size 0 [.slice xb0 s.tops.length xl0,.slice xb1 s.nest.length xl1,.slice xb2 s.sorts.length xl2,.slice xb3 s.most.length xl3,.slice xb4 s.apart.length xl4] _ rfl rfl (BoxAt.new _ _ [.slice none 0 0,.slice none 0 0,.slice none 0 0,.slice none 0 0,.slice none 0 0] _ rfl) (by simp) infoSrtB (by simp [Value.oneCell']) ?_;intro s6 hB hg4 hs4;have hb4:Ext u6 s6:=((Ext.refl u6).alloc _).own hg4 (fun g hg=>by cases hg;exact Nat.le_refl _);have hzs6:u6.heap.size<s6.heap.size:=(by simp only [World.size_alloc] at hs4;omega);replace hA:=hA.ext hb4;replace H0:=H0.ext CtlP.keeps hb4;replace H1:=SrtP.keeps _ _ _ _ _ _ (Same.ext hb4) H1;replace H6:=H6.ext RulP.keeps hb4;replace H7:=H7.ext StrP.keeps hb4;replace hX:=hX.trans hb4;replace hW:=hW.ext hb4;replace hP1:=RntP.keeps _ _ _ _ _ _ (Same.ext hb4) hP1;replace hO0:=hO0.ext CtlP.keepsO hb4;replace hO1:=SrtO.keepsO.ext hO1 hb4;replace hB:BoxAt s6 u6.heap.size [.slice xb0 s.tops.length xl0,.slice xb1 s.nest.length xl1,.slice xb2 s.sorts.length xl2,.slice xb3 s.most.length xl3,.slice xb4 s.apart.length xl4]:=hB;clear hb4 hg4 hs4)
    refine (c_laws_toRuleS 0 w.heap.size _ rules _ H6 (by omega)).mono ?_
    rintro e u7 ⟨x2,rfl,hO2,hb7⟩
    have hs7:=Below.size hb7
    replace hA:=hA.ext hb7
    replace H0:=H0.ext CtlP.keeps hb7
    replace H1:=SrtP.keeps _ _ _ _ _ _ (Same.ext hb7) H1
    replace H6:=H6.ext RulP.keeps hb7
    replace H7:=H7.ext StrP.keeps hb7
    replace hX:=hX.trans hb7
    replace hW:=hW.ext hb7
    replace hP1:=RntP.keeps _ _ _ _ _ _ (Same.ext hb7) hP1
    replace hO0:=hO0.ext CtlP.keepsO hb7
    replace hO1:=SrtO.keepsO.ext hO1 hb7
    replace hB:=hB.ext hb7
    clear hb7
    go_wp2_with fail
    refine (c_laws_toStringS 0 w.heap.size _ hosts _ H7 (by omega)).mono ?_
    rintro e u8 ⟨x3,rfl,hO3,hb8⟩
    have hs8:=Below.size hb8
    replace hA:=hA.ext hb8
    replace H0:=H0.ext CtlP.keeps hb8
    replace H1:=SrtP.keeps _ _ _ _ _ _ (Same.ext hb8) H1
    replace H6:=H6.ext RulP.keeps hb8
    replace H7:=H7.ext StrP.keeps hb8
    replace hX:=hX.trans hb8
    replace hW:=hW.ext hb8
    replace hP1:=RntP.keeps _ _ _ _ _ _ (Same.ext hb8) hP1
    replace hO0:=hO0.ext CtlP.keepsO hb8
    replace hO1:=SrtO.keepsO.ext hO1 hb8
    replace hB:=hB.ext hb8
    replace hO2:=hO2.ext RulO.keepsO hb8
    clear hb8
    as_aux_lemma=>
     go_wp2_with (refine wpList_load_all rfl 39 (.tmp 13) rfl hB rfl Tryz.underlying39 rfl infoSrtB ?_;simp only [Act.put,aput])
     refine (newImpl hO0 hO1 hO2 hO3 hwt HBB.out HN.out).mono ?_
     rintro e u9 ⟨dG,rfl,hO4,hb9⟩
     have hs9:=Below.size hb9
     replace hA:=hA.ext hb9
     replace H0:=H0.ext CtlP.keeps hb9
     replace H1:=SrtP.keeps _ _ _ _ _ _ (Same.ext hb9) H1
     replace H6:=H6.ext RulP.keeps hb9
     replace H7:=H7.ext StrP.keeps hb9
     replace hX:=hX.trans hb9
     replace hW:=hW.ext hb9
     replace hP1:=RntP.keeps _ _ _ _ _ _ (Same.ext hb9) hP1
     replace hO0:=hO0.ext CtlP.keepsO hb9
     replace hO1:=SrtO.keepsO.ext hO1 hb9
     replace hB:=hB.ext hb9
     replace hO2:=hO2.ext RulO.keepsO hb9
     replace hO3:=hO3.ext StrP.keepsO hb9
     clear hb9
     obtain ⟨_,_,_,_,_,rfl,⟨ga0,gk0,rfl,_⟩,⟨_,_,_,_,_,rfl,⟨gb0,gl0,rfl,_⟩,⟨gb1,gl1,rfl,_⟩,⟨gb2,gl2,rfl,_⟩,⟨gb3,gl3,rfl,_⟩,⟨gb4,gl4,rfl,_⟩⟩,⟨ga6,gk6,rfl,_⟩,⟨ga7,gk7,rfl,_⟩,⟨_,_,_,_,rfl,_,_,⟨ga1,gk1,rfl,_⟩,⟨ga2,gk2,rfl,_⟩,⟨ga4,gk4,rfl,_⟩,⟨ga5,gk5,rfl,_⟩⟩,_⟩:=id (RntO.toP hO4)
     as_aux_lemma=>
      go_upto_region 20 with (refine wpList_store_box rfl 46 (.tmp 16) (.tmp 69) rfl u9.heap.size 0 [.slice ga0 N.sig.length gk0,.slice gb0 N.sort.tops.length gl0,.slice gb1 N.sort.nest.length gl1,.slice gb2 N.sort.sorts.length gl2,.slice gb3 N.sort.most.length gl3,.slice gb4 N.sort.apart.length gl4,.slice ga6 N.rules.length gk6,.slice ga7 N.hosts.length gk7,.int .i64 N.agent.roots,.slice ga1 N.agent.nodes.length gk1,.slice ga2 N.agent.sites.length gk2,.int .i64 N.agent.edges,.slice ga4 N.agent.outer.length gk4,.slice ga5 N.agent.inner.length gk5,.int .i64 N.count] _ rfl rfl (BoxAt.new _ _ [.slice none 0 0,.slice none 0 0,.slice none 0 0,.slice none 0 0,.slice none 0 0,.slice none 0 0,.slice none 0 0,.slice none 0 0,.int .i64 0,.slice none 0 0,.slice none 0 0,.int .i64 0,.slice none 0 0,.slice none 0 0,.int .i64 0] _ rfl) (by simp) infoRntA (by simp [Value.oneCell']) ?_;intro s9 hG hg4 hs4;have hb4:Ext u9 s9:=((Ext.refl u9).alloc _).own hg4 (fun g hg=>by cases hg;exact Nat.le_refl _);have hzs9:u9.heap.size<s9.heap.size:=(by simp only [World.size_alloc] at hs4;omega);replace hA:=hA.ext hb4;replace H0:=H0.ext CtlP.keeps hb4;replace H1:=SrtP.keeps _ _ _ _ _ _ (Same.ext hb4) H1;replace H6:=H6.ext RulP.keeps hb4;replace H7:=H7.ext StrP.keeps hb4;replace hX:=hX.trans hb4;replace hW:=hW.ext hb4;replace hP1:=RntP.keeps _ _ _ _ _ _ (Same.ext hb4) hP1;replace hO0:=hO0.ext CtlP.keepsO hb4;replace hO1:=SrtO.keepsO.ext hO1 hb4;replace hB:=hB.ext hb4;replace hO2:=hO2.ext RulO.keepsO hb4;replace hO3:=hO3.ext StrP.keepsO hb4;replace hO4:=RntO.keepsO.ext hO4 hb4;replace hG:BoxAt s9 u9.heap.size [.slice ga0 N.sig.length gk0,.slice gb0 N.sort.tops.length gl0,.slice gb1 N.sort.nest.length gl1,.slice gb2 N.sort.sorts.length gl2,.slice gb3 N.sort.most.length gl3,.slice gb4 N.sort.apart.length gl4,.slice ga6 N.rules.length gk6,.slice ga7 N.hosts.length gk7,.int .i64 N.agent.roots,.slice ga1 N.agent.nodes.length gk1,.slice ga2 N.agent.sites.length gk2,.int .i64 N.agent.edges,.slice ga4 N.agent.outer.length gk4,.slice ga5 N.agent.inner.length gk5,.int .i64 N.count]:=hG;clear hb4 hg4 hs4)
      refine wp_region_lit ?_
      refine wpList_load_all rfl 46 (.tmp 16) rfl hG rfl Tryz.underlying46 rfl infoRntA ?_
      simp only [Act.put,aput]
      refine wpList_load_all rfl 46 (.tmp 10) rfl hW rfl Tryz.underlying46 rfl infoRntA ?_
      simp only [Act.put,aput]
      go_wp2_with fail
      refine (c_laws_eqRuntime _ _ _ _ _ _ N _ (RntO.toP hO4) hP1).mono ?_
      rintro e u10 ⟨rfl,hb10⟩
      have hs10:=Below.size hb10
      replace hA:=hA.ext hb10
      replace H0:=H0.ext CtlP.keeps hb10
      replace H1:=SrtP.keeps _ _ _ _ _ _ (Same.ext hb10) H1
      replace H6:=H6.ext RulP.keeps hb10
      replace H7:=H7.ext StrP.keeps hb10
      replace hX:=hX.trans hb10
      replace hW:=hW.ext hb10
      replace hP1:=RntP.keeps _ _ _ _ _ _ (Same.ext hb10) hP1
      replace hO0:=hO0.ext CtlP.keepsO hb10
      replace hO1:=SrtO.keepsO.ext hO1 hb10
      replace hB:=hB.ext hb10
      replace hO2:=hO2.ext RulO.keepsO hb10
      replace hO3:=hO3.ext StrP.keepsO hb10
      replace hO4:=RntO.keepsO.ext hO4 hb10
      replace hG:=hG.ext hb10
      clear hb10
      as_aux_lemma=>
       go_wp2_with fail
       refine (c_laws_toControlS 0 w.heap.size _ sig _ H0 (by omega)).mono ?_
       rintro e u11 ⟨cc,rfl,hT,hb11⟩
       have hs11:=Below.size hb11
       replace hA:=hA.ext hb11
       replace H0:=H0.ext CtlP.keeps hb11
       replace H1:=SrtP.keeps _ _ _ _ _ _ (Same.ext hb11) H1
       replace H6:=H6.ext RulP.keeps hb11
       replace H7:=H7.ext StrP.keeps hb11
       replace hX:=hX.trans hb11
       replace hW:=hW.ext hb11
       replace hP1:=RntP.keeps _ _ _ _ _ _ (Same.ext hb11) hP1
       replace hO0:=hO0.ext CtlP.keepsO hb11
       replace hO1:=SrtO.keepsO.ext hO1 hb11
       replace hB:=hB.ext hb11
       replace hO2:=hO2.ext RulO.keepsO hb11
       replace hO3:=hO3.ext StrP.keepsO hb11
       replace hO4:=RntO.keepsO.ext hO4 hb11
       replace hG:=hG.ext hb11
       clear hb11
       go_wp2_with fail
       refine (c_laws_eqControlS _ _ _ _ _ _ sig _ (CtlsO.toV hO0) (CtlsO.toV hT)).mono ?_
       rintro e u12 ⟨rfl,hb12⟩
       clear hT
       have hs12:=Below.size hb12
       replace hA:=hA.ext hb12
       replace H0:=H0.ext CtlP.keeps hb12
       replace H1:=SrtP.keeps _ _ _ _ _ _ (Same.ext hb12) H1
       replace H6:=H6.ext RulP.keeps hb12
       replace H7:=H7.ext StrP.keeps hb12
       replace hX:=hX.trans hb12
       replace hW:=hW.ext hb12
       replace hP1:=RntP.keeps _ _ _ _ _ _ (Same.ext hb12) hP1
       replace hO0:=hO0.ext CtlP.keepsO hb12
       replace hO1:=SrtO.keepsO.ext hO1 hb12
       replace hB:=hB.ext hb12
       replace hO2:=hO2.ext RulO.keepsO hb12
       replace hO3:=hO3.ext StrP.keepsO hb12
       replace hO4:=RntO.keepsO.ext hO4 hb12
       replace hG:=hG.ext hb12
       clear hb12
       as_aux_lemma=>
        go_wp2_with fail
        refine wp_region_held_drew (S:=(fun w'=>Ext u12 w')) (by kernel_rfl) ?_ (fun hHeld=>?_)
        ·exact (Ext.refl u12).drew
        refine tkY 0 _ (fun w' hSw=>exec_load_boxL 39 (.tmp 13) rfl u6.heap.size [.slice xb0 s.tops.length xl0,.slice xb1 s.nest.length xl1,.slice xb2 s.sorts.length xl2,.slice xb3 s.most.length xl3,.slice xb4 s.apart.length xl4] rfl (hB.ext hSw) _ Tryz.underlying39 rfl infoSrtB) ?_
        try simp only [Act.put,aput]
        refine tkY 1 _ (fun w' hSw=>exec_load_boxL 27 (.tmp 5) rfl w.heap.size [.slice yb0 s.tops.length yl0,.slice yb1 s.nest.length yl1,.slice yb2 s.sorts.length yl2,.slice yb3 s.most.length yl3,.slice yb4 s.apart.length yl4] rfl (hA.ext hSw) _ Tryz.underlying27 rfl infoSrtL) ?_
        try simp only [Act.put,aput]
        refine wpAnyH_ready (rs:=[2]) (by kernel_rfl) (by simp) ?_
        refine AllReadyH.cons rfl (fun K hK=>?_) AllReadyH.nil
        (try simp only [aput])
        go_simp
        (go_at_call 28;refine (c_laws_toSorting 0 w.heap.size _ s _ (SrtP.keeps _ _ _ _ _ _ (Same.ext hHeld) H1) (by omega)).mono ?_;rintro e w3 ⟨d3,rfl,hD3,hb3⟩)
        show K _ _
        refine hK.out _ _ (by exact hHeld.trans hb3) (fun hHeld=>?_)
        clear hK K
        try simp only [Act.put,aput]
        refine wpAnyH_ready (rs:=[3]) (by kernel_rfl) (by simp) ?_
        refine AllReadyH.cons rfl (fun K hK=>?_) AllReadyH.nil
        (try simp only [aput])
        go_simp
        (go_at_call 33;refine (c_laws_eqSorting _ _ _ _ _ _ s _ (SrtO.toP (SrtO.keepsO.ext hO1 hHeld)) (SrtO.toP hD3)).mono ?_;rintro e w4 ⟨rfl,hb5⟩)
        show K _ _
        refine hK.out _ _ (by exact hHeld.trans hb5) (fun hHeld=>?_)
        clear hK K
        try simp only [Act.put,aput]
        refine tkP 4 ?_ ?_ ?_;rotate_left;focus (intro w;go_simp;try with_reducible rfl)
        try simp only [Act.put,aput]
        refine wpAnyH_done (by kernel_rfl) ?_ _
        have hs13:=Below.size hHeld
        replace hA:=hA.ext hHeld
        replace H0:=H0.ext CtlP.keeps hHeld
        replace H1:=SrtP.keeps _ _ _ _ _ _ (Same.ext hHeld) H1
        replace H6:=H6.ext RulP.keeps hHeld
        replace H7:=H7.ext StrP.keeps hHeld
        replace hX:=hX.trans hHeld
        replace hW:=hW.ext hHeld
        replace hP1:=RntP.keeps _ _ _ _ _ _ (Same.ext hHeld) hP1
        replace hO0:=hO0.ext CtlP.keepsO hHeld
        replace hO1:=SrtO.keepsO.ext hO1 hHeld
        replace hB:=hB.ext hHeld
        replace hO2:=hO2.ext RulO.keepsO hHeld
        replace hO3:=hO3.ext StrP.keepsO hHeld
        replace hO4:=RntO.keepsO.ext hO4 hHeld
        replace hG:=hG.ext hHeld
        clear hHeld
        as_aux_lemma=>
         go_wp2_with fail
         refine (c_laws_toRuleS 0 w.heap.size _ rules _ H6 (by omega)).mono ?_
         rintro e u14 ⟨cc,rfl,hT,hb14⟩
         have hs14:=Below.size hb14
         replace hA:=hA.ext hb14
         replace H0:=H0.ext CtlP.keeps hb14
         replace H1:=SrtP.keeps _ _ _ _ _ _ (Same.ext hb14) H1
         replace H6:=H6.ext RulP.keeps hb14
         replace H7:=H7.ext StrP.keeps hb14
         replace hX:=hX.trans hb14
         replace hW:=hW.ext hb14
         replace hP1:=RntP.keeps _ _ _ _ _ _ (Same.ext hb14) hP1
         replace hO0:=hO0.ext CtlP.keepsO hb14
         replace hO1:=SrtO.keepsO.ext hO1 hb14
         replace hB:=hB.ext hb14
         replace hO2:=hO2.ext RulO.keepsO hb14
         replace hO3:=hO3.ext StrP.keepsO hb14
         replace hO4:=RntO.keepsO.ext hO4 hb14
         replace hG:=hG.ext hb14
         clear hb14
         go_wp2_with fail
         refine (c_laws_eqRuleS _ _ _ _ _ _ rules _ (RulsO.toV hO2) (RulsO.toV hT)).mono ?_
         rintro e u15 ⟨rfl,hb15⟩
         clear hT
         have hs15:=Below.size hb15
         replace hA:=hA.ext hb15
         replace H0:=H0.ext CtlP.keeps hb15
         replace H1:=SrtP.keeps _ _ _ _ _ _ (Same.ext hb15) H1
         replace H6:=H6.ext RulP.keeps hb15
         replace H7:=H7.ext StrP.keeps hb15
         replace hX:=hX.trans hb15
         replace hW:=hW.ext hb15
         replace hP1:=RntP.keeps _ _ _ _ _ _ (Same.ext hb15) hP1
         replace hO0:=hO0.ext CtlP.keepsO hb15
         replace hO1:=SrtO.keepsO.ext hO1 hb15
         replace hB:=hB.ext hb15
         replace hO2:=hO2.ext RulO.keepsO hb15
         replace hO3:=hO3.ext StrP.keepsO hb15
         replace hO4:=RntO.keepsO.ext hO4 hb15
         replace hG:=hG.ext hb15
         clear hb15
         as_aux_lemma=>
          go_wp2_with fail
          refine (c_laws_toStringS 0 w.heap.size _ hosts _ H7 (by omega)).mono ?_
          rintro e u16 ⟨cc,rfl,hT,hb16⟩
          have hs16:=Below.size hb16
          replace hA:=hA.ext hb16
          replace H0:=H0.ext CtlP.keeps hb16
          replace H1:=SrtP.keeps _ _ _ _ _ _ (Same.ext hb16) H1
          replace H6:=H6.ext RulP.keeps hb16
          replace H7:=H7.ext StrP.keeps hb16
          replace hX:=hX.trans hb16
          replace hW:=hW.ext hb16
          replace hP1:=RntP.keeps _ _ _ _ _ _ (Same.ext hb16) hP1
          replace hO0:=hO0.ext CtlP.keepsO hb16
          replace hO1:=SrtO.keepsO.ext hO1 hb16
          replace hB:=hB.ext hb16
          replace hO2:=hO2.ext RulO.keepsO hb16
          replace hO3:=hO3.ext StrP.keepsO hb16
          replace hO4:=RntO.keepsO.ext hO4 hb16
          replace hG:=hG.ext hb16
          clear hb16
          go_wp2_with fail
          refine (c_laws_eqStringS _ _ _ _ _ _ hosts _ (StrsO.toV hO3) (StrsO.toV hT)).mono ?_
          rintro e u17 ⟨rfl,hb17⟩
          clear hT
          have hs17:=Below.size hb17
          replace hA:=hA.ext hb17
          replace H0:=H0.ext CtlP.keeps hb17
          replace H1:=SrtP.keeps _ _ _ _ _ _ (Same.ext hb17) H1
          replace H6:=H6.ext RulP.keeps hb17
          replace H7:=H7.ext StrP.keeps hb17
          replace hX:=hX.trans hb17
          replace hW:=hW.ext hb17
          replace hP1:=RntP.keeps _ _ _ _ _ _ (Same.ext hb17) hP1
          replace hO0:=hO0.ext CtlP.keepsO hb17
          replace hO1:=SrtO.keepsO.ext hO1 hb17
          replace hB:=hB.ext hb17
          replace hO2:=hO2.ext RulO.keepsO hb17
          replace hO3:=hO3.ext StrP.keepsO hb17
          replace hO4:=RntO.keepsO.ext hO4 hb17
          replace hG:=hG.ext hb17
          clear hb17
          as_aux_lemma=>
           go_wp2_with fail
           refine (c_laws_markControlS _ _ _ sig (1) _ hO0 (by omega) (by omega) (by omega)).mono ?_
           rintro e u18 ⟨rfl,hM7,hO7⟩
           have hs18:=hO7.size
           replace hA:=hA.only hO7 (by first|exact .inl (by omega)|exact .inr (by omega))
           replace H0:=H0.keeps CtlP.keeps (hO7.same (by first|exact .inl (by show _≤_;omega)|exact .inr (by show _≤_;omega)))
           replace H1:=SrtP.keeps _ _ _ _ _ _ (hO7.same (by first|exact .inl (by show _≤_;omega)|exact .inr (by show _≤_;omega))) H1
           replace H6:=H6.keeps RulP.keeps (hO7.same (by first|exact .inl (by show _≤_;omega)|exact .inr (by show _≤_;omega)))
           replace H7:=H7.keeps StrP.keeps (hO7.same (by first|exact .inl (by show _≤_;omega)|exact .inr (by show _≤_;omega)))
           replace hX:=hX.only hO7 (by omega)
           replace hW:=hW.only hO7 (by first|exact .inl (by omega)|exact .inr (by omega))
           replace hP1:=RntP.keeps _ _ _ _ _ _ (hO7.same (by first|exact .inl (by show _≤_;omega)|exact .inr (by show _≤_;omega))) hP1
           replace hO1:=SrtO.keepsO.only hO1 hO7 (by first|exact .inl (by show _≤_;omega)|exact .inr (by show _≤_;omega))
           replace hB:=hB.only hO7 (by first|exact .inl (by omega)|exact .inr (by omega))
           replace hO2:=hO2.only RulO.keepsO hO7 (by first|exact .inl (by show _≤_;omega)|exact .inr (by show _≤_;omega))
           replace hO3:=hO3.only StrP.keepsO hO7 (by first|exact .inl (by show _≤_;omega)|exact .inr (by show _≤_;omega))
           replace hO4:=RntO.keepsO.only hO4 hO7 (by first|exact .inl (by show _≤_;omega)|exact .inr (by show _≤_;omega))
           replace hG:=hG.only hO7 (by first|exact .inl (by omega)|exact .inr (by omega))
           clear hM7 hO0 hO7
           as_aux_lemma=>
            go_wp2_with (refine wpList_load_all rfl 39 (.tmp 13) rfl hB rfl Tryz.underlying39 rfl infoSrtB ?_;simp only [Act.put,aput])
            refine (c_laws_markSorting _ _ _ s (1+((cnL c3 sig:Nat):Int)) _ hO1 (by omega) (by omega) (by omega)).mono ?_
            rintro e u19 ⟨rfl,hM7,hO7⟩
            have hs19:=hO7.size
            replace hA:=hA.only hO7 (by first|exact .inl (by omega)|exact .inr (by omega))
            replace H0:=H0.keeps CtlP.keeps (hO7.same (by first|exact .inl (by show _≤_;omega)|exact .inr (by show _≤_;omega)))
            replace H1:=SrtP.keeps _ _ _ _ _ _ (hO7.same (by first|exact .inl (by show _≤_;omega)|exact .inr (by show _≤_;omega))) H1
            replace H6:=H6.keeps RulP.keeps (hO7.same (by first|exact .inl (by show _≤_;omega)|exact .inr (by show _≤_;omega)))
            replace H7:=H7.keeps StrP.keeps (hO7.same (by first|exact .inl (by show _≤_;omega)|exact .inr (by show _≤_;omega)))
            replace hX:=hX.only hO7 (by omega)
            replace hW:=hW.only hO7 (by first|exact .inl (by omega)|exact .inr (by omega))
            replace hP1:=RntP.keeps _ _ _ _ _ _ (hO7.same (by first|exact .inl (by show _≤_;omega)|exact .inr (by show _≤_;omega))) hP1
            replace hB:=hB.only hO7 (by first|exact .inl (by omega)|exact .inr (by omega))
            replace hO2:=hO2.only RulO.keepsO hO7 (by first|exact .inl (by show _≤_;omega)|exact .inr (by show _≤_;omega))
            replace hO3:=hO3.only StrP.keepsO hO7 (by first|exact .inl (by show _≤_;omega)|exact .inr (by show _≤_;omega))
            replace hO4:=RntO.keepsO.only hO4 hO7 (by first|exact .inl (by show _≤_;omega)|exact .inr (by show _≤_;omega))
            replace hG:=hG.only hO7 (by first|exact .inl (by omega)|exact .inr (by omega))
            clear hM7 hO1 hO7 hB
            as_aux_lemma=>
             go_wp2_with fail
             refine (c_laws_markRuleS _ _ _ rules (1+((cnL c3 sig:Nat):Int)+((cSrt s:Nat):Int)) _ hO2 (by omega) (by omega) (by omega)).mono ?_
             rintro e u20 ⟨rfl,hM7,hO7⟩
             have hs20:=hO7.size
             replace hA:=hA.only hO7 (by first|exact .inl (by omega)|exact .inr (by omega))
             replace H0:=H0.keeps CtlP.keeps (hO7.same (by first|exact .inl (by show _≤_;omega)|exact .inr (by show _≤_;omega)))
             replace H1:=SrtP.keeps _ _ _ _ _ _ (hO7.same (by first|exact .inl (by show _≤_;omega)|exact .inr (by show _≤_;omega))) H1
             replace H6:=H6.keeps RulP.keeps (hO7.same (by first|exact .inl (by show _≤_;omega)|exact .inr (by show _≤_;omega)))
             replace H7:=H7.keeps StrP.keeps (hO7.same (by first|exact .inl (by show _≤_;omega)|exact .inr (by show _≤_;omega)))
             replace hX:=hX.only hO7 (by omega)
             replace hW:=hW.only hO7 (by first|exact .inl (by omega)|exact .inr (by omega))
             replace hP1:=RntP.keeps _ _ _ _ _ _ (hO7.same (by first|exact .inl (by show _≤_;omega)|exact .inr (by show _≤_;omega))) hP1
             replace hO3:=hO3.only StrP.keepsO hO7 (by first|exact .inl (by show _≤_;omega)|exact .inr (by show _≤_;omega))
             replace hO4:=RntO.keepsO.only hO4 hO7 (by first|exact .inl (by show _≤_;omega)|exact .inr (by show _≤_;omega))
             replace hG:=hG.only hO7 (by first|exact .inl (by omega)|exact .inr (by omega))
             clear hM7 hO2 hO7
             as_aux_lemma=>
              go_wp2_with fail
              refine (c_laws_markStringS _ _ _ hosts (1+((cnL c3 sig:Nat):Int)+((cSrt s:Nat):Int)+((cnL cRulR rules:Nat):Int)) _ hO3 (by omega) (by omega) (by omega)).mono ?_
              rintro e u21 ⟨rfl,hM7,hO7⟩
              have hs21:=hO7.size
              replace hA:=hA.only hO7 (by first|exact .inl (by omega)|exact .inr (by omega))
              replace H0:=H0.keeps CtlP.keeps (hO7.same (by first|exact .inl (by show _≤_;omega)|exact .inr (by show _≤_;omega)))
              replace H1:=SrtP.keeps _ _ _ _ _ _ (hO7.same (by first|exact .inl (by show _≤_;omega)|exact .inr (by show _≤_;omega))) H1
              replace H6:=H6.keeps RulP.keeps (hO7.same (by first|exact .inl (by show _≤_;omega)|exact .inr (by show _≤_;omega)))
              replace H7:=H7.keeps StrP.keeps (hO7.same (by first|exact .inl (by show _≤_;omega)|exact .inr (by show _≤_;omega)))
              replace hX:=hX.only hO7 (by omega)
              replace hW:=hW.only hO7 (by first|exact .inl (by omega)|exact .inr (by omega))
              replace hP1:=RntP.keeps _ _ _ _ _ _ (hO7.same (by first|exact .inl (by show _≤_;omega)|exact .inr (by show _≤_;omega))) hP1
              replace hO4:=RntO.keepsO.only hO4 hO7 (by first|exact .inl (by show _≤_;omega)|exact .inr (by show _≤_;omega))
              replace hG:=hG.only hO7 (by first|exact .inl (by omega)|exact .inr (by omega))
              clear hM7 hO3 hO7
              as_aux_lemma=>
               go_upto_region 35 with fail
               refine wp_region_lit ?_
               refine wpList_plain rfl fun K hK=>?_
               unfold Oper.wp
               go_simp
               refine hK _ _ ?_
               clear hK
               refine wpList_plain rfl fun K hK=>?_
               unfold Oper.wp
               go_simp
               refine hK _ _ ?_
               clear hK
               refine wpList_plain rfl fun K hK=>?_
               unfold Oper.wp
               go_simp
               refine hK _ _ ?_
               clear hK
               refine wpList_load_allG rfl 46 (.tmp 16) rfl hG rfl Tryz.underlying46 rfl infoRntA ?_
               simp only [Act.put,aput]
               refine wpList_load_allG rfl 46 (.tmp 10) rfl hW rfl Tryz.underlying46 rfl infoRntA ?_
               simp only [Act.put,aput]
               go_wp2_with fail
               refine (c_laws_eqRuntime _ _ _ _ _ _ N _ (RntO.toP hO4) hP1).mono ?_
               rintro e u22 ⟨rfl,hb22⟩
               have hs22:=Below.size hb22
               replace hA:=hA.ext hb22
               replace H0:=H0.ext CtlP.keeps hb22
               replace H1:=SrtP.keeps _ _ _ _ _ _ (Same.ext hb22) H1
               replace H6:=H6.ext RulP.keeps hb22
               replace H7:=H7.ext StrP.keeps hb22
               replace hX:=hX.trans hb22
               replace hW:=hW.ext hb22
               replace hP1:=RntP.keeps _ _ _ _ _ _ (Same.ext hb22) hP1
               replace hO4:=RntO.keepsO.ext hO4 hb22
               replace hG:=hG.ext hb22
               clear hb22
               as_aux_lemma=>
                go_wp2_with (refine wpList_load_all rfl 46 (.tmp 16) rfl hG rfl Tryz.underlying46 rfl infoRntA ?_;simp only [Act.put,aput])
                refine (c_laws_markRuntime _ _ _ N 1 _ hO4 (by omega) hM (by omega)).mono ?_
                rintro e u23 ⟨rfl,hM9,hO9⟩
                have hs23:=hO9.size
                replace hA:=hA.only hO9 (by first|exact .inl (by omega)|exact .inr (by omega))
                replace H0:=H0.keeps CtlP.keeps (hO9.same (by first|exact .inl (by show _≤_;omega)|exact .inr (by show _≤_;omega)))
                replace H1:=SrtP.keeps _ _ _ _ _ _ (hO9.same (by first|exact .inl (by show _≤_;omega)|exact .inr (by show _≤_;omega))) H1
                replace H6:=H6.keeps RulP.keeps (hO9.same (by first|exact .inl (by show _≤_;omega)|exact .inr (by show _≤_;omega)))
                replace H7:=H7.keeps StrP.keeps (hO9.same (by first|exact .inl (by show _≤_;omega)|exact .inr (by show _≤_;omega)))
                replace hX:=hX.only hO9 (by omega)
                replace hW:=hW.only hO9 (by first|exact .inl (by omega)|exact .inr (by omega))
                replace hP1:=RntP.keeps _ _ _ _ _ _ (hO9.same (by first|exact .inl (by show _≤_;omega)|exact .inr (by show _≤_;omega))) hP1
                replace hG:=hG.only hO9 (by first|exact .inl (by omega)|exact .inr (by omega))
                clear hO4 hO9
                replace hM9:=RntO.toP hM9
                as_aux_lemma=>
                 go_wp2_with (refine wpList_load_all rfl 46 (.tmp 16) rfl hG rfl Tryz.underlying46 rfl infoRntA ?_;simp only [Act.put,aput])
                 refine (c_laws_heldRuntime _ _ _ N 1 _ hM9 (by omega) hM).mono ?_
                 rintro e u24 ⟨rfl,hb24⟩
                 have hs24:=Below.size hb24
                 replace hA:=hA.ext hb24
                 replace H0:=H0.ext CtlP.keeps hb24
                 replace H1:=SrtP.keeps _ _ _ _ _ _ (Same.ext hb24) H1
                 replace H6:=H6.ext RulP.keeps hb24
                 replace H7:=H7.ext StrP.keeps hb24
                 replace hX:=hX.trans hb24
                 replace hW:=hW.ext hb24
                 replace hP1:=RntP.keeps _ _ _ _ _ _ (Same.ext hb24) hP1
                 replace hG:=hG.ext hb24
                 replace hM9:=RntP.keeps _ _ _ _ _ _ (Same.ext hb24) hM9
                 clear hb24
                 as_aux_lemma=>
                  go_wp2_with fail
                  refine region_loose 13 [11] [13,14] (by kernel_rfl) (by kernel_rfl) (fun _ _ _ d _ _ h=>by cases d <;> exact h) ?_
                  refine mP ?_
                  refine mCall 1 (ROwn 3 CtlP sig) 27 (ROwn.stays CtlP.keepsO _) (fun _=>#[v0]) (fun vs l u w1 hx hf=>c_laws_toControlS 0 w.heap.size _ sig _ (H0.ext CtlP.keeps hx) (by omega)) ?_
                  refine mF 2 (fun _=>.agg #[.slice yb0 s.tops.length yl0,.slice yb1 s.nest.length yl1,.slice yb2 s.sorts.length yl2,.slice yb3 s.most.length yl3,.slice yb4 s.apart.length yl4]) ?_ ?_
                  ·exact fun vs l u w1 hx hf=>exec_load_boxL 27 (.tmp 5) rfl w.heap.size [.slice yb0 s.tops.length yl0,.slice yb1 s.nest.length yl1,.slice yb2 s.sorts.length yl2,.slice yb3 s.most.length yl3,.slice yb4 s.apart.length yl4] rfl (hA.ext hx) _ Tryz.underlying27 rfl infoSrtL
                  refine mCall 3 (RAgg SrtO s) 28 (RAgg.stays SrtO.keepsO _) (fun _=>#[.agg #[.slice yb0 s.tops.length yl0,.slice yb1 s.nest.length yl1,.slice yb2 s.sorts.length yl2,.slice yb3 s.most.length yl3,.slice yb4 s.apart.length yl4]]) (fun vs l u w1 hx hf=>(c_laws_toSorting 0 w.heap.size _ s _ (SrtP.keeps _ _ _ _ _ _ (Same.ext hx) H1) (by omega)).mono fun e w2 ⟨ds,h1,h2,h3⟩=>⟨_,h1,⟨ds,rfl,h2⟩,h3⟩) ?_
                  refine mP ?_
                  refine mCall 5 (ROwn 13 RulO rules) 29 (ROwn.stays RulO.keepsO _) (fun _=>#[v6]) (fun vs l u w1 hx hf=>c_laws_toRuleS 0 w.heap.size _ rules _ (H6.ext RulP.keeps hx) (by omega)) ?_
                  refine mP ?_
                  refine mCall 7 (ROwn 1 StrP hosts) 30 (ROwn.stays StrP.keepsO _) (fun _=>#[v7]) (fun vs l u w1 hx hf=>c_laws_toStringS 0 w.heap.size _ hosts _ (H7.ext StrP.keeps hx) (by omega)) ?_
                  refine mCall 8 (RTup RntP N [.bool bb]) 31 (RTup.stays RntP.keeps.toO _ _) (fun vs=>#[vs 1,vs 3,vs 5,vs 7]) ?_ ?_
                  ·intro vs l u w1 hx hf
                   obtain ⟨ds,e3,h3⟩:=hf.at 3
                   rw [e3]
                   exact (newImplP (hf.at 1) h3 (hf.at 5) (hf.at 7) hwt HBB.out HN.out).mono fun e w2 ⟨ds,h1,h2,h3⟩=>⟨_,h1,⟨ds,rfl,h2⟩,h3⟩
                  refine mP ?_
                  refine mF 10 (fun vs=>tupAt (vs 8) 0) ?_ ?_
                  ·intro vs l u w1 hx hf
                   obtain ⟨ds,e8,h8⟩:=hf.at 8
                   rw [e8]
                   exact exec_extract (.tmp 136) 0 rfl rfl rfl rfl
                  refine mF 11 (fun vs=>.bool bb) ?_ ?_
                  ·intro vs l u w1 hx hf
                   obtain ⟨ds,e8,h8⟩:=hf.at 8
                   rw [e8]
                   exact exec_extract (.tmp 136) 1 rfl rfl rfl rfl
                  refine mBox 12 [.slice none 0 0,.slice none 0 0,.slice none 0 0,.slice none 0 0,.slice none 0 0,.slice none 0 0,.slice none 0 0,.slice none 0 0,.int .i64 0,.slice none 0 0,.slice none 0 0,.int .i64 0,.slice none 0 0,.slice none 0 0,.int .i64 0] ?_
                  refine ⟨fun f hf=>(by rw [List.mem_singleton.1 hf];rfl),?_⟩
                  intro vsj llj uuj u25 hk
                  have hbj:=hk.ext
                  obtain ⟨⟨dj,ej,hJ1⟩,f1j,f2j,f3j⟩:=hk.at 8
                  obtain ⟨⟨Bj,ebj,f4j,f5j,hBB⟩,f6j,f7j,f8j⟩:=hk.at 12
                  have hoj:=hk.off 8 12
                  simp only [Off] at hoj
                  clear hk
                  obtain ⟨_,_,_,_,_,rfl,⟨ja0,jk0,rfl,_⟩,⟨_,_,_,_,_,rfl,⟨jb0,jl0,rfl,_⟩,⟨jb1,jl1,rfl,_⟩,⟨jb2,jl2,rfl,_⟩,⟨jb3,jl3,rfl,_⟩,⟨jb4,jl4,rfl,_⟩⟩,⟨ja6,jk6,rfl,_⟩,⟨ja7,jk7,rfl,_⟩,⟨_,_,_,_,rfl,_,_,⟨ja1,jk1,rfl,_⟩,⟨ja2,jk2,rfl,_⟩,⟨ja4,jk4,rfl,_⟩,⟨ja5,jk5,rfl,_⟩⟩,_⟩:=id hJ1
                  simp only [picked,List.filterMap_cons,List.filterMap_nil]
                  go_simp
                  refine wpList_store_box rfl 46 (.tmp 21) (.tmp 146) rfl Bj 0 [.slice ja0 N.sig.length jk0,.slice jb0 N.sort.tops.length jl0,.slice jb1 N.sort.nest.length jl1,.slice jb2 N.sort.sorts.length jl2,.slice jb3 N.sort.most.length jl3,.slice jb4 N.sort.apart.length jl4,.slice ja6 N.rules.length jk6,.slice ja7 N.hosts.length jk7,.int .i64 N.agent.roots,.slice ja1 N.agent.nodes.length jk1,.slice ja2 N.agent.sites.length jk2,.int .i64 N.agent.edges,.slice ja4 N.agent.outer.length jk4,.slice ja5 N.agent.inner.length jk5,.int .i64 N.count] _ rfl rfl hBB (by simp) infoRntA (by simp [Value.oneCell']) ?_
                  intro u25s hH hg4 hs4
                  replace hH:BoxAt u25s Bj [.slice ja0 N.sig.length jk0,.slice jb0 N.sort.tops.length jl0,.slice jb1 N.sort.nest.length jl1,.slice jb2 N.sort.sorts.length jl2,.slice jb3 N.sort.most.length jl3,.slice jb4 N.sort.apart.length jl4,.slice ja6 N.rules.length jk6,.slice ja7 N.hosts.length jk7,.int .i64 N.agent.roots,.slice ja1 N.agent.nodes.length jk1,.slice ja2 N.agent.sites.length jk2,.int .i64 N.agent.edges,.slice ja4 N.agent.outer.length jk4,.slice ja5 N.agent.inner.length jk5,.int .i64 N.count]:=hH
                  replace hbj:=hbj.own hg4 (fun g hg=>by cases hg;omega)
                  replace hJ1:=RntP.keeps _ _ _ _ _ _ (Same.grown hg4 (by omega)) hJ1
                  clear hBB hg4 ej
                  have hs25:=Below.size hbj
                  replace hA:=hA.ext hbj
                  replace H0:=H0.ext CtlP.keeps hbj
                  replace H1:=SrtP.keeps _ _ _ _ _ _ (Same.ext hbj) H1
                  replace H6:=H6.ext RulP.keeps hbj
                  replace H7:=H7.ext StrP.keeps hbj
                  replace hX:=hX.trans hbj
                  replace hW:=hW.ext hbj
                  replace hP1:=RntP.keeps _ _ _ _ _ _ (Same.ext hbj) hP1
                  replace hG:=hG.ext hbj
                  replace hM9:=RntP.keeps _ _ _ _ _ _ (Same.ext hbj) hM9
                  clear hbj
                  as_aux_lemma=>
                   go_upto_region 46 with fail
                   refine wp_region_lit ?_
                   refine wpList_load_all rfl 46 (.tmp 21) rfl hH rfl Tryz.underlying46 rfl infoRntA ?_
                   simp only [Act.put,aput]
                   refine wpList_load_all rfl 46 (.tmp 10) rfl hW rfl Tryz.underlying46 rfl infoRntA ?_
                   simp only [Act.put,aput]
                   go_wp2_with fail
                   refine (c_laws_eqRuntime _ _ _ _ _ _ N _ hJ1 hP1).mono ?_
                   rintro e u26 ⟨rfl,hb26⟩
                   have hs26:=Below.size hb26
                   replace hA:=hA.ext hb26
                   replace H0:=H0.ext CtlP.keeps hb26
                   replace H1:=SrtP.keeps _ _ _ _ _ _ (Same.ext hb26) H1
                   replace H6:=H6.ext RulP.keeps hb26
                   replace H7:=H7.ext StrP.keeps hb26
                   replace hX:=hX.trans hb26
                   replace hW:=hW.ext hb26
                   replace hP1:=RntP.keeps _ _ _ _ _ _ (Same.ext hb26) hP1
                   replace hG:=hG.ext hb26
                   replace hM9:=RntP.keeps _ _ _ _ _ _ (Same.ext hb26) hM9
                   replace hH:=hH.ext hb26
                   replace hJ1:=RntP.keeps _ _ _ _ _ _ (Same.ext hb26) hJ1
                   clear hb26
                   as_aux_lemma=>
                    go_wp2_with (refine wpList_load_all rfl 46 (.tmp 16) rfl hG rfl Tryz.underlying46 rfl infoRntA ?_;simp only [Act.put,aput])
                    refine (c_laws_heldRuntime _ _ _ N 1 _ hM9 (by omega) hM).mono ?_
                    rintro e u27 ⟨rfl,hb27⟩
                    have hs27:=Below.size hb27
                    replace hA:=hA.ext hb27
                    replace H0:=H0.ext CtlP.keeps hb27
                    replace H1:=SrtP.keeps _ _ _ _ _ _ (Same.ext hb27) H1
                    replace H6:=H6.ext RulP.keeps hb27
                    replace H7:=H7.ext StrP.keeps hb27
                    replace hX:=hX.trans hb27
                    replace hW:=hW.ext hb27
                    replace hP1:=RntP.keeps _ _ _ _ _ _ (Same.ext hb27) hP1
                    replace hG:=hG.ext hb27
                    replace hM9:=RntP.keeps _ _ _ _ _ _ (Same.ext hb27) hM9
                    replace hH:=hH.ext hb27
                    replace hJ1:=RntP.keeps _ _ _ _ _ _ (Same.ext hb27) hJ1
                    clear hb27
                    go_wp2
                    go_ret
                    exact ⟨rfl,hX⟩
end Go.Proofs.YtccjepndhlobpaaGreatDoor
