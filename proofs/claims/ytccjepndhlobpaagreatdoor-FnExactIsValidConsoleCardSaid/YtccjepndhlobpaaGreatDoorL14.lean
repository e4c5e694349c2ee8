/-
  The law FnExactIsValidConsole, walked.
-/
import Derived.Test.YtccjepndhlobpaaGreatDoorV29
import Derived.Test.YtccjepndhlobpaaGreatDoorS6
import Derived.Deep.RegionWith
import Derived.Deep.DrawnRows
import Derived.Deep.RegionHeld3
import Derived.Deep.DeepMust
namespace Go.Proofs.YtccjepndhlobpaaGreatDoor
open Go.RowKit
set_option linter.unusedVariables false
set_option linter.unusedSimpArgs false
theorem infoCnsA:(Tryz.prog.info? 86).map (·.size)=some 18:=by kernel_rfl
/-- A struct is read out of a box, in whatever world. -/
theorem exec_load_box {P:Program} {op:Oper} {a:Act} {w:World} (ty:TypeId) (x:Operand) (ho:op.op=.load ty x) (B:Nat) (cs:List Value) (hx:a.eval x=.pointer (some ⟨B,0,none⟩)) (hb:BoxAt w B cs) (d:TypeDesc) (hu:P.underlying ty=some d) (hd:d.isRow=true) (hi:(P.info? ty).map (·.size)=some cs.length) :
 (execOp a.eval op).run P w=.ok (.value (.agg cs.toArray)) w:=by
 have h:=load_fact (P:=P) hb 0 cs (fun j v hj=>by simpa using hj) ty d hu hd hi
 unfold execOp
 simp only [ho,hx,h,Sem.run_bind,Sem.run_pure,Result.andThen_ok]
attribute [local irreducible] cnsB
set_option maxRecDepth 100000 in
set_option maxHeartbeats 12800000 in
theorem law_FnExactIsValidConsole (cs:List Value) (x:Cns) (w:World) (hE:Env w) (h:CnsP 0 w.heap.size w cs x) :
 Calls Tryz.prog 8 #[.agg cs.toArray] w fun e w'=>e=.returned (.bool true)∧Ext w w':=by
 have HH:=h
 obtain ⟨cr,cl,rfl,E1,E2⟩:=h
 obtain ⟨v0,cc1,v6,v7,cc8,rfl,_,ES,_,_,EB,_⟩:=id E1
 obtain ⟨s0,s1,s2,s3,s4,rfl,_⟩:=id ES
 obtain ⟨yy1,yy2,yy4,yy5,rfl,_⟩:=id EB
 obtain ⟨rfl,l1,l2,l3⟩:=id E2
 clear ES EB
 change Calls Tryz.prog 8 #[.agg #[v0,s0,s1,s2,s3,s4,v6,v7,.int .i64 x.run.agent.roots,yy1,yy2,.int .i64 x.run.agent.edges,yy4,yy5,.int .i64 x.run.count,.string x.log.durable,.string x.log.pending,.int .i64 x.log.count]] w _
 obtain ⟨W0,hW0,hA,hx0,hz⟩:=box_facts w [v0,s0,s1,s2,s3,s4,v6,v7,.int .i64 x.run.agent.roots,yy1,yy2,.int .i64 x.run.agent.edges,yy4,yy5,.int .i64 x.run.count,.string x.log.durable,.string x.log.pending,.int .i64 x.log.count] 86
 replace HH:=CnsP.keeps _ _ _ _ _ _ (Same.ext hx0) HH
 have hX:=hx0
 clear hz E1
 go_enter Tryz.func8,Tryz.ntmps8
 clear hx0
 go_wp2_with (refine wpList_load_box rfl 86 (.tmp 1) rfl w.heap.size 0 [v0,s0,s1,s2,s3,s4,v6,v7,.int .i64 x.run.agent.roots,yy1,yy2,.int .i64 x.run.agent.edges,yy4,yy5,.int .i64 x.run.count,.string x.log.durable,.string x.log.pending,.int .i64 x.log.count] _ rfl hA (fun j v hj=>by simpa using hj) _ Tryz.underlying86 rfl infoCnsA ?_;simp only [Act.put,aput])
 refine (c_laws_szConsole 0 w.heap.size _ x 1048576 _ HH (by omega) (by omega)).mono ?_
 rintro e u0 ⟨rfl,hb0⟩
 replace hA:=hA.ext hb0
 replace HH:=CnsP.keeps _ _ _ _ _ _ (Same.ext hb0) HH
 replace hX:=hX.trans hb0
 clear hb0
 clear hW0
 by_cases hw:wtCns x≤1048576
 rotate_left
 ·rw [szR_neg (by omega)]
  go_wp2
  go_ret
  exact ⟨rfl,hX⟩
 rw [szR_pos (by omega)]
 go_wp2_with (refine wpList_load_box rfl 86 (.tmp 1) rfl w.heap.size 0 [v0,s0,s1,s2,s3,s4,v6,v7,.int .i64 x.run.agent.roots,yy1,yy2,.int .i64 x.run.agent.edges,yy4,yy5,.int .i64 x.run.count,.string x.log.durable,.string x.log.pending,.int .i64 x.log.count] _ rfl hA (fun j v hj=>by simpa using hj) _ Tryz.underlying86 rfl infoCnsA ?_;simp only [Act.put,aput])
 refine (c_laws_toConsole 0 w.heap.size _ x _ HH hw).mono ?_
 rintro e u1 ⟨d1,rfl,hD1,hb1⟩
 replace hA:=hA.ext hb1
 replace HH:=CnsP.keeps _ _ _ _ _ _ (Same.ext hb1) HH
 replace hX:=hX.trans hb1
 clear hb1
 go_wp2_with fail
 refine (c_spec_IsValidConsole _ _ _ x _ (hE.ext hX) (CnsO.toP hD1) hw).mono ?_
 rintro e u2 ⟨rfl,hb2⟩
 replace hA:=hA.ext hb2
 replace HH:=CnsP.keeps _ _ _ _ _ _ (Same.ext hb2) HH
 replace hX:=hX.trans hb2
 clear hb2
 clear hD1
 as_aux_lemma=>
  go_wp2_with (refine wpList_load_box rfl 86 (.tmp 1) rfl w.heap.size 0 [v0,s0,s1,s2,s3,s4,v6,v7,.int .i64 x.run.agent.roots,yy1,yy2,.int .i64 x.run.agent.edges,yy4,yy5,.int .i64 x.run.count,.string x.log.durable,.string x.log.pending,.int .i64 x.log.count] _ rfl hA (fun j v hj=>by simpa using hj) _ Tryz.underlying86 rfl infoCnsA ?_;simp only [Act.put,aput])
  refine (c_laws_toConsole 0 w.heap.size _ x _ HH hw).mono ?_
  rintro e u3 ⟨d2,rfl,hD2,hb3⟩
  replace hA:=hA.ext hb3
  replace HH:=CnsP.keeps _ _ _ _ _ _ (Same.ext hb3) HH
  replace hX:=hX.trans hb3
  clear hb3
  have HD2:=CnsO.toP hD2
  obtain ⟨_,_,rfl,⟨_,_,_,_,_,_,_,_,_,_,_,_,_,_,_,rfl,⟨xa0,xk0,rfl,_⟩,⟨_,_,_,_,_,_,_,_,_,_,_,_,_,_,_,rfl,⟨xb0,xl0,rfl,_⟩,⟨xb1,xl1,rfl,_⟩,⟨xb2,xl2,rfl,_⟩,⟨xb3,xl3,rfl,_⟩,⟨xb4,xl4,rfl,_⟩,_⟩,⟨xa6,xk6,rfl,_⟩,⟨xa7,xk7,rfl,_⟩,⟨_,_,_,_,_,_,_,_,_,_,_,_,rfl,_,_,⟨xc1,xm1,rfl,_⟩,⟨xc2,xm2,rfl,_⟩,⟨xc4,xm4,rfl,_⟩,⟨xc5,xm5,rfl,_⟩,_⟩,_,_⟩,⟨rfl,_⟩⟩:=hD2
  have hD2:=HD2
  clear HD2
  change CnsP _ _ _ [.slice xa0 x.run.sig.length xk0,.slice xb0 x.run.sort.tops.length xl0,.slice xb1 x.run.sort.nest.length xl1,.slice xb2 x.run.sort.sorts.length xl2,.slice xb3 x.run.sort.most.length xl3,.slice xb4 x.run.sort.apart.length xl4,.slice xa6 x.run.rules.length xk6,.slice xa7 x.run.hosts.length xk7,.int .i64 x.run.agent.roots,.slice xc1 x.run.agent.nodes.length xm1,.slice xc2 x.run.agent.sites.length xm2,.int .i64 x.run.agent.edges,.slice xc4 x.run.agent.outer.length xm4,.slice xc5 x.run.agent.inner.length xm5,.int .i64 x.run.count,.string x.log.durable,.string x.log.pending,.int .i64 x.log.count] _ at hD2
  go_wp2_with (first|(refine wpList_store_box rfl 79 (.tmp 5) (.tmp 16) rfl u3.heap.size 0 [.slice xa0 x.run.sig.length xk0,.slice xb0 x.run.sort.tops.length xl0,.slice xb1 x.run.sort.nest.length xl1,.slice xb2 x.run.sort.sorts.length xl2,.slice xb3 x.run.sort.most.length xl3,.slice xb4 x.run.sort.apart.length xl4,.slice xa6 x.run.rules.length xk6,.slice xa7 x.run.hosts.length xk7,.int .i64 x.run.agent.roots,.slice xc1 x.run.agent.nodes.length xm1,.slice xc2 x.run.agent.sites.length xm2,.int .i64 x.run.agent.edges,.slice xc4 x.run.agent.outer.length xm4,.slice xc5 x.run.agent.inner.length xm5,.int .i64 x.run.count,.string x.log.durable,.string x.log.pending,.int .i64 x.log.count] _ rfl rfl (BoxAt.new _ _ [.slice none 0 0,.slice none 0 0,.slice none 0 0,.slice none 0 0,.slice none 0 0,.slice none 0 0,.slice none 0 0,.slice none 0 0,.int .i64 0,.slice none 0 0,.slice none 0 0,.int .i64 0,.slice none 0 0,.slice none 0 0,.int .i64 0,.string ⟨#[]⟩,.string ⟨#[]⟩,.int .i64 0] _ rfl) (by simp) infoCnsM (by simp [Value.oneCell']) ?_;intro u4 hB hg4 hs4;have hb4:Ext u3 u4:=((Ext.refl u3).alloc _).own hg4 (fun g hg=>by cases hg;exact Nat.le_refl _);replace hA:=hA.ext hb4;replace HH:=CnsP.keeps _ _ _ _ _ _ (Same.ext hb4) HH;replace hX:=hX.trans hb4;replace hD2:=CnsP.keeps _ _ _ _ _ _ (Same.ext hb4) hD2;replace hB:BoxAt u4 u3.heap.size [.slice xa0 x.run.sig.length xk0,.slice xb0 x.run.sort.tops.length xl0,.slice xb1 x.run.sort.nest.length xl1,.slice xb2 x.run.sort.sorts.length xl2,.slice xb3 x.run.sort.most.length xl3,.slice xb4 x.run.sort.apart.length xl4,.slice xa6 x.run.rules.length xk6,.slice xa7 x.run.hosts.length xk7,.int .i64 x.run.agent.roots,.slice xc1 x.run.agent.nodes.length xm1,.slice xc2 x.run.agent.sites.length xm2,.int .i64 x.run.agent.edges,.slice xc4 x.run.agent.outer.length xm4,.slice xc5 x.run.agent.inner.length xm5,.int .i64 x.run.count,.string x.log.durable,.string x.log.pending,.int .i64 x.log.count]:=hB;clear hb4 hg4 hs4)|(refine wpList_load_box rfl 79 (.tmp 5) rfl u3.heap.size 0 [.slice xa0 x.run.sig.length xk0,.slice xb0 x.run.sort.tops.length xl0,.slice xb1 x.run.sort.nest.length xl1,.slice xb2 x.run.sort.sorts.length xl2,.slice xb3 x.run.sort.most.length xl3,.slice xb4 x.run.sort.apart.length xl4,.slice xa6 x.run.rules.length xk6,.slice xa7 x.run.hosts.length xk7,.int .i64 x.run.agent.roots,.slice xc1 x.run.agent.nodes.length xm1,.slice xc2 x.run.agent.sites.length xm2,.int .i64 x.run.agent.edges,.slice xc4 x.run.agent.outer.length xm4,.slice xc5 x.run.agent.inner.length xm5,.int .i64 x.run.count,.string x.log.durable,.string x.log.pending,.int .i64 x.log.count] _ rfl hB (fun j v hj=>by simpa using hj) _ Tryz.underlying79 rfl infoCnsM ?_;simp only [Act.put,aput]))
  refine (c_impl_IsValidConsole _ _ _ x _ (hE.ext hX) hD2 hw).mono ?_
  rintro e u5 ⟨rfl,hb5⟩
  replace hA:=hA.ext hb5
  replace HH:=CnsP.keeps _ _ _ _ _ _ (Same.ext hb5) HH
  replace hX:=hX.trans hb5
  replace hB:=hB.ext hb5
  replace hD2:=CnsP.keeps _ _ _ _ _ _ (Same.ext hb5) hD2
  clear hb5
  generalize cnsB x=bb
  as_aux_lemma=>
   go_wp2_with fail
   refine wp_region_held_drew (S:=(fun w'=>Ext u5 w')) (by kernel_rfl) ?_ (fun hHeld=>?_)
   ·exact (Ext.refl u5).drew
   refine tkY 0 _ (fun w' hSw=>exec_load_box 79 (.tmp 5) rfl u3.heap.size [.slice xa0 x.run.sig.length xk0,.slice xb0 x.run.sort.tops.length xl0,.slice xb1 x.run.sort.nest.length xl1,.slice xb2 x.run.sort.sorts.length xl2,.slice xb3 x.run.sort.most.length xl3,.slice xb4 x.run.sort.apart.length xl4,.slice xa6 x.run.rules.length xk6,.slice xa7 x.run.hosts.length xk7,.int .i64 x.run.agent.roots,.slice xc1 x.run.agent.nodes.length xm1,.slice xc2 x.run.agent.sites.length xm2,.int .i64 x.run.agent.edges,.slice xc4 x.run.agent.outer.length xm4,.slice xc5 x.run.agent.inner.length xm5,.int .i64 x.run.count,.string x.log.durable,.string x.log.pending,.int .i64 x.log.count] rfl (hB.ext hSw) _ Tryz.underlying79 rfl infoCnsM) ?_
   try simp only [Act.put,aput]
   refine tkY 1 _ (fun w' hSw=>exec_load_box 86 (.tmp 1) rfl w.heap.size [v0,s0,s1,s2,s3,s4,v6,v7,.int .i64 x.run.agent.roots,yy1,yy2,.int .i64 x.run.agent.edges,yy4,yy5,.int .i64 x.run.count,.string x.log.durable,.string x.log.pending,.int .i64 x.log.count] rfl (hA.ext hSw) _ Tryz.underlying86 rfl infoCnsA) ?_
   try simp only [Act.put,aput]
   refine wpAnyH_ready (rs:=[2]) (by kernel_rfl) (by simp) ?_
   refine AllReadyH.cons rfl (fun K hK=>?_) AllReadyH.nil
   (try simp only [aput])
   go_simp
   (go_at_call 48;refine (c_laws_toConsole 0 w.heap.size _ x _ (CnsP.keeps _ _ _ _ _ _ (Same.ext hHeld) HH) hw).mono ?_;rintro e w3 ⟨d3,rfl,hD3,hb3⟩)
   show K _ _
   refine hK.out _ _ (by exact hHeld.trans hb3) (fun hHeld=>?_)
   clear hK K
   try simp only [Act.put,aput]
   refine wpAnyH_ready (rs:=[3]) (by kernel_rfl) (by simp) ?_
   refine AllReadyH.cons rfl (fun K hK=>?_) AllReadyH.nil
   (try simp only [aput])
   go_simp
   (go_at_call 43;refine (c_laws_eqConsole _ _ _ _ _ _ x _ (CnsP.keeps _ _ _ _ _ _ (Same.ext hHeld) hD2) (CnsO.toP hD3)).mono ?_;rintro e w4 ⟨rfl,hb5⟩)
   show K _ _
   refine hK.out _ _ (by exact hHeld.trans hb5) (fun hHeld=>?_)
   clear hK K
   try simp only [Act.put,aput]
   refine tkP 4 ?_ ?_ ?_;rotate_left;focus (intro w;go_simp;try with_reducible rfl)
   try simp only [Act.put,aput]
   refine wpAnyH_done (by kernel_rfl) ?_ _
   all_goals go_wp2
   all_goals go_ret
   all_goals exact ⟨rfl,hX.trans hHeld⟩
end Go.Proofs.YtccjepndhlobpaaGreatDoor
