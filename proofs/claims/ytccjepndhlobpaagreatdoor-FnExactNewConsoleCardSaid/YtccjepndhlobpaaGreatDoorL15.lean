/-
  The law FnExactNewConsole, walked.
-/
import Derived.Test.YtccjepndhlobpaaGreatDoorV37
import Derived.Test.YtccjepndhlobpaaGreatDoorS6
import Derived.Deep.RegionWith
import Derived.Deep.DrawnRows
import Derived.Deep.RegionHeld3
import Derived.Deep.DeepMust
import Derived.Deep.Cut
namespace Go.Proofs.YtccjepndhlobpaaGreatDoor
open Go.RowKit
set_option linter.unusedVariables false
set_option linter.unusedSimpArgs false
theorem infoRntL:(Tryz.prog.info? 35).map (·.size)=some 15:=by kernel_rfl
/-- A struct is read out of a box, in whatever world. -/
theorem exec_load_boxL {P:Program} {op:Oper} {a:Act} {w:World} (ty:TypeId) (x:Operand) (ho:op.op=.load ty x) (B:Nat) (cs:List Value) (hx:a.eval x=.pointer (some ⟨B,0,none⟩)) (hb:BoxAt w B cs) (d:TypeDesc) (hu:P.underlying ty=some d) (hd:d.isRow=true) (hi:(P.info? ty).map (·.size)=some cs.length) :
 (execOp a.eval op).run P w=.ok (.value (.agg cs.toArray)) w:=by
 have h:=load_fact (P:=P) hb 0 cs (fun j v hj=>by simpa using hj) ty d hu hd hi
 unfold execOp
 simp only [ho,hx,h,Sem.run_bind,Sem.run_pure,Result.andThen_ok]
theorem wpList_load_boxG {P:Program} {ops:Array Oper} {rest:List Oper} {op:Oper} {a:Act} {w:World} {Q:Exit→Act→World→Prop} (hw:Region.wanted op (yielded ops a.tmps)=true) (ty:TypeId) (x:Operand) (ho:op.op=.load ty x)
 (B:Nat) (cs:List Value) (hx:a.eval x=.pointer (some ⟨B,0,none⟩)) (hb:BoxAt w B cs) (d:TypeDesc) (hu:P.underlying ty=some d) (hd:d.isRow=true) (hi:(P.info? ty).map (·.size)=some cs.length)
 (h:wpList P ops Q rest (a.put op.dst (.agg cs.toArray)) w):wpList P ops Q (op :: rest) a w:=by
 simp only [wpList,hw,if_true]
 left
 unfold Oper.wp
 rw [exec_load_boxL ty x ho B cs hx hb d hu hd hi]
 exact h
theorem wpList_load_allG {P:Program} {ops:Array Oper} {rest:List Oper} {op:Oper} {a:Act} {w:World} {Q:Exit→Act→World→Prop} (hw:Region.wanted op (yielded ops a.tmps)=true) (ty:TypeId) (x:Operand) (ho:op.op=.load ty x)
 {B:Nat} {cs:List Value} (hb:BoxAt w B cs) (hx:a.eval x=.pointer (some ⟨B,0,none⟩)) {d:TypeDesc} (hu:P.underlying ty=some d) (hd:d.isRow=true) (hi:(P.info? ty).map (·.size)=some cs.length)
 (h:wpList P ops Q rest (a.put op.dst (.agg cs.toArray)) w):wpList P ops Q (op :: rest) a w:=wpList_load_boxG hw ty x ho B cs hx hb d hu hd hi h
theorem wpList_load_all {P:Program} {ops:Array Oper} {rest:List Oper} {op:Oper} {a:Act} {w:World} {Q:Exit→Act→World→Prop} (hg:op.guard=none) (ty:TypeId) (x:Operand) (ho:op.op=.load ty x)
 {B:Nat} {cs:List Value} (hb:BoxAt w B cs) (hx:a.eval x=.pointer (some ⟨B,0,none⟩)) {d:TypeDesc} (hu:P.underlying ty=some d) (hd:d.isRow=true) (hi:(P.info? ty).map (·.size)=some cs.length)
 (h:wpList P ops Q rest (a.put op.dst (.agg cs.toArray)) w):wpList P ops Q (op :: rest) a w:=wpList_load_box hg ty x ho B 0 cs cs hx hb (fun j v hj=>by simpa using hj) d hu hd hi h
theorem BoxAt.only {lo hi B:Nat} {w w':World} {cs:List Value} (h:BoxAt w B cs) (k:Only lo hi w w') (ho:B<lo∨hi≤B):BoxAt w' B cs:=by
 intro j u hj
 obtain ⟨h1,h2⟩:=h j u hj
 have hb:=k.block B (World.block_lt_of_cell? w ⟨B,j,none⟩ h1) (by omega)
 exact ⟨(World.cell?_of_block hb).trans h1,(World.frozen?_of_block hb).trans h2⟩
attribute [local irreducible] cnsNew rntB cRnt mkRnt
set_option maxRecDepth 100000 in
set_option maxHeartbeats 12800000 in
theorem law_FnExactNewConsole (cs:List Value) (r:Rnt) (w:World) (h:RntP 0 w.heap.size w cs r) :
 Calls Tryz.prog 7 #[.agg cs.toArray] w fun e w'=>e=.returned (.bool true)∧Ext w w':=by
 have HH:=h
 obtain ⟨_,_,_,_,_,rfl,⟨ya0,yk0,rfl,_⟩,⟨_,_,_,_,_,rfl,⟨yb0,yl0,rfl,_⟩,⟨yb1,yl1,rfl,_⟩,⟨yb2,yl2,rfl,_⟩,⟨yb3,yl3,rfl,_⟩,⟨yb4,yl4,rfl,_⟩⟩,⟨ya6,yk6,rfl,_⟩,⟨ya7,yk7,rfl,_⟩,⟨_,_,_,_,rfl,_,_,⟨ya1,yk1,rfl,_⟩,⟨ya2,yk2,rfl,_⟩,⟨ya4,yk4,rfl,_⟩,⟨ya5,yk5,rfl,_⟩⟩,_⟩:=h
 change Calls Tryz.prog 7 #[.agg #[.slice ya0 r.sig.length yk0,.slice yb0 r.sort.tops.length yl0,.slice yb1 r.sort.nest.length yl1,.slice yb2 r.sort.sorts.length yl2,.slice yb3 r.sort.most.length yl3,.slice yb4 r.sort.apart.length yl4,.slice ya6 r.rules.length yk6,.slice ya7 r.hosts.length yk7,.int .i64 r.agent.roots,.slice ya1 r.agent.nodes.length yk1,.slice ya2 r.agent.sites.length yk2,.int .i64 r.agent.edges,.slice ya4 r.agent.outer.length yk4,.slice ya5 r.agent.inner.length yk5,.int .i64 r.count]] w _
 obtain ⟨W0,hW0,hA,hx0,hz⟩:=box_facts w [.slice ya0 r.sig.length yk0,.slice yb0 r.sort.tops.length yl0,.slice yb1 r.sort.nest.length yl1,.slice yb2 r.sort.sorts.length yl2,.slice yb3 r.sort.most.length yl3,.slice yb4 r.sort.apart.length yl4,.slice ya6 r.rules.length yk6,.slice ya7 r.hosts.length yk7,.int .i64 r.agent.roots,.slice ya1 r.agent.nodes.length yk1,.slice ya2 r.agent.sites.length yk2,.int .i64 r.agent.edges,.slice ya4 r.agent.outer.length yk4,.slice ya5 r.agent.inner.length yk5,.int .i64 r.count] 35
 replace HH:=RntP.keeps _ _ _ _ _ _ (Same.ext hx0) HH
 have hX:=hx0
 have hzW0:w.heap.size<W0.heap.size:=by omega
 clear hz
 go_enter Tryz.func7,Tryz.ntmps7
 clear hx0
 go_wp2_with (refine wpList_load_all rfl 35 (.tmp 1) rfl hA rfl Tryz.underlying35 rfl infoRntL ?_;simp only [Act.put,aput])
 refine (c_laws_szRuntime 0 w.heap.size _ r 1048576 _ HH (by omega) (by omega)).mono ?_
 rintro e u0 ⟨rfl,hb0⟩
 have hs0:=Below.size hb0
 replace hA:=hA.ext hb0
 replace HH:=RntP.keeps _ _ _ _ _ _ (Same.ext hb0) HH
 replace hX:=hX.trans hb0
 clear hb0
 clear hW0
 by_cases hw:wtRnt r≤1048576
 rotate_left
 ·rw [szR_neg (by omega)]
  go_wp2
  go_ret
  exact ⟨rfl,hX⟩
 rw [szR_pos (by omega)]
 obtain ⟨N,hN⟩:∃N,cnsNew r=N:=⟨_,rfl⟩
 have hwN:wtRnt N.run≤1048576:=by rw [← hN];unfold cnsNew;split;exact hw;exact Nat.zero_le _
 have hcN:=cRnt_le N.run
 have hcr:=cRnt_le r
 have hM:1+((cRnt N.run:Nat):Int)≤1000000000:=by omega
 have hM2:1+((cRnt r:Nat):Int)≤1000000000:=by omega
 have hn1:¬(1+((cRnt N.run:Nat):Int)<0):=by omega
 have hn2:¬(1+((cRnt r:Nat):Int)<0):=by omega
 clear hcN hcr hwN
 have HN:=Lib.hid hN
 obtain ⟨bb,hbb⟩:∃bb,rntB r=bb:=⟨_,rfl⟩
 have HBB:=Lib.hid hbb
 clear hN hbb
 go_wp2_with (refine wpList_load_all rfl 35 (.tmp 1) rfl hA rfl Tryz.underlying35 rfl infoRntL ?_;simp only [Act.put,aput])
 refine (c_laws_toRuntime 0 w.heap.size _ r _ HH hw).mono ?_
 rintro e u1 ⟨d1,rfl,hD1,hb1⟩
 have hs1:=Below.size hb1
 replace hA:=hA.ext hb1
 replace HH:=RntP.keeps _ _ _ _ _ _ (Same.ext hb1) HH
 replace hX:=hX.trans hb1
 clear hb1
 go_wp2_with fail
 refine (c_spec_NewConsole _ _ _ r _ (RntO.toP hD1) hw).mono ?_
 rintro e u2 ⟨dW,rfl,hP1,hb2⟩
 rw [HBB.out]
 rw [HN.out] at hP1
 clear hD1
 have hs2:=Below.size hb2
 replace hA:=hA.ext hb2
 replace HH:=RntP.keeps _ _ _ _ _ _ (Same.ext hb2) HH
 replace hX:=hX.trans hb2
 clear hb2
 have hP1c:=hP1
 obtain ⟨_,_,rfl,⟨_,_,_,_,_,rfl,⟨pa0,pk0,rfl,_⟩,⟨_,_,_,_,_,rfl,⟨pb0,pl0,rfl,_⟩,⟨pb1,pl1,rfl,_⟩,⟨pb2,pl2,rfl,_⟩,⟨pb3,pl3,rfl,_⟩,⟨pb4,pl4,rfl,_⟩⟩,⟨pa6,pk6,rfl,_⟩,⟨pa7,pk7,rfl,_⟩,⟨_,_,_,_,rfl,_,_,⟨pa1,pk1,rfl,_⟩,⟨pa2,pk2,rfl,_⟩,⟨pa4,pk4,rfl,_⟩,⟨pa5,pk5,rfl,_⟩⟩,_⟩,⟨rfl,_⟩⟩:=hP1c
 as_aux_lemma=>
  go_wp2_with (first|(refine wpList_store_box rfl 79 (.tmp 4) (.tmp 23) rfl u2.heap.size 0 [.slice pa0 N.run.sig.length pk0,.slice pb0 N.run.sort.tops.length pl0,.slice pb1 N.run.sort.nest.length pl1,.slice pb2 N.run.sort.sorts.length pl2,.slice pb3 N.run.sort.most.length pl3,.slice pb4 N.run.sort.apart.length pl4,.slice pa6 N.run.rules.length pk6,.slice pa7 N.run.hosts.length pk7,.int .i64 N.run.agent.roots,.slice pa1 N.run.agent.nodes.length pk1,.slice pa2 N.run.agent.sites.length pk2,.int .i64 N.run.agent.edges,.slice pa4 N.run.agent.outer.length pk4,.slice pa5 N.run.agent.inner.length pk5,.int .i64 N.run.count,.string N.log.durable,.string N.log.pending,.int .i64 N.log.count] _ rfl rfl (BoxAt.new _ _ [.slice none 0 0,.slice none 0 0,.slice none 0 0,.slice none 0 0,.slice none 0 0,.slice none 0 0,.slice none 0 0,.slice none 0 0,.int .i64 0,.slice none 0 0,.slice none 0 0,.int .i64 0,.slice none 0 0,.slice none 0 0,.int .i64 0,.string ⟨#[]⟩,.string ⟨#[]⟩,.int .i64 0] _ rfl) (by simp) infoCnsN (by simp [Value.oneCell']) ?_;intro s2 hW hg4 hs4;have hb4:Ext u2 s2:=((Ext.refl u2).alloc _).own hg4 (fun g hg=>by cases hg;exact Nat.le_refl _);have hzs2:u2.heap.size<s2.heap.size:=(by simp only [World.size_alloc] at hs4;omega);replace hA:=hA.ext hb4;replace HH:=RntP.keeps _ _ _ _ _ _ (Same.ext hb4) HH;replace hX:=hX.trans hb4;replace hP1:=CnsP.keeps _ _ _ _ _ _ (Same.ext hb4) hP1;replace hW:BoxAt s2 u2.heap.size [.slice pa0 N.run.sig.length pk0,.slice pb0 N.run.sort.tops.length pl0,.slice pb1 N.run.sort.nest.length pl1,.slice pb2 N.run.sort.sorts.length pl2,.slice pb3 N.run.sort.most.length pl3,.slice pb4 N.run.sort.apart.length pl4,.slice pa6 N.run.rules.length pk6,.slice pa7 N.run.hosts.length pk7,.int .i64 N.run.agent.roots,.slice pa1 N.run.agent.nodes.length pk1,.slice pa2 N.run.agent.sites.length pk2,.int .i64 N.run.agent.edges,.slice pa4 N.run.agent.outer.length pk4,.slice pa5 N.run.agent.inner.length pk5,.int .i64 N.run.count,.string N.log.durable,.string N.log.pending,.int .i64 N.log.count]:=hW;clear hb4 hg4 hs4)|(refine wpList_load_all rfl 35 (.tmp 1) rfl hA rfl Tryz.underlying35 rfl infoRntL ?_;simp only [Act.put,aput]))
  refine (c_laws_toRuntime 0 w.heap.size _ r _ HH hw).mono ?_
  rintro e u3 ⟨d2,rfl,hO2,hb3⟩
  have hs3:=Below.size hb3
  replace hA:=hA.ext hb3
  replace HH:=RntP.keeps _ _ _ _ _ _ (Same.ext hb3) HH
  replace hX:=hX.trans hb3
  replace hP1:=CnsP.keeps _ _ _ _ _ _ (Same.ext hb3) hP1
  replace hW:=hW.ext hb3
  clear hb3
  obtain ⟨_,_,_,_,_,rfl,⟨xa0,xk0,rfl,_⟩,⟨_,_,_,_,_,rfl,⟨xb0,xl0,rfl,_⟩,⟨xb1,xl1,rfl,_⟩,⟨xb2,xl2,rfl,_⟩,⟨xb3,xl3,rfl,_⟩,⟨xb4,xl4,rfl,_⟩⟩,⟨xa6,xk6,rfl,_⟩,⟨xa7,xk7,rfl,_⟩,⟨_,_,_,_,rfl,_,_,⟨xa1,xk1,rfl,_⟩,⟨xa2,xk2,rfl,_⟩,⟨xa4,xk4,rfl,_⟩,⟨xa5,xk5,rfl,_⟩⟩,_⟩:=id (RntO.toP hO2)
  as_aux_lemma=>
   go_wp2_with (first|(refine wpList_store_box rfl 46 (.tmp 6) (.tmp 26) rfl u3.heap.size 0 [.slice xa0 r.sig.length xk0,.slice xb0 r.sort.tops.length xl0,.slice xb1 r.sort.nest.length xl1,.slice xb2 r.sort.sorts.length xl2,.slice xb3 r.sort.most.length xl3,.slice xb4 r.sort.apart.length xl4,.slice xa6 r.rules.length xk6,.slice xa7 r.hosts.length xk7,.int .i64 r.agent.roots,.slice xa1 r.agent.nodes.length xk1,.slice xa2 r.agent.sites.length xk2,.int .i64 r.agent.edges,.slice xa4 r.agent.outer.length xk4,.slice xa5 r.agent.inner.length xk5,.int .i64 r.count] _ rfl rfl (BoxAt.new _ _ [.slice none 0 0,.slice none 0 0,.slice none 0 0,.slice none 0 0,.slice none 0 0,.slice none 0 0,.slice none 0 0,.slice none 0 0,.int .i64 0,.slice none 0 0,.slice none 0 0,.int .i64 0,.slice none 0 0,.slice none 0 0,.int .i64 0] _ rfl) (by simp) infoRntA (by simp [Value.oneCell']) ?_;intro s3 hB hg4 hs4;have hb4:Ext u3 s3:=((Ext.refl u3).alloc _).own hg4 (fun g hg=>by cases hg;exact Nat.le_refl _);have hzs3:u3.heap.size<s3.heap.size:=(by simp only [World.size_alloc] at hs4;omega);replace hA:=hA.ext hb4;replace HH:=RntP.keeps _ _ _ _ _ _ (Same.ext hb4) HH;replace hX:=hX.trans hb4;replace hP1:=CnsP.keeps _ _ _ _ _ _ (Same.ext hb4) hP1;replace hW:=hW.ext hb4;replace hO2:=RntO.keepsO.ext hO2 hb4;replace hB:BoxAt s3 u3.heap.size [.slice xa0 r.sig.length xk0,.slice xb0 r.sort.tops.length xl0,.slice xb1 r.sort.nest.length xl1,.slice xb2 r.sort.sorts.length xl2,.slice xb3 r.sort.most.length xl3,.slice xb4 r.sort.apart.length xl4,.slice xa6 r.rules.length xk6,.slice xa7 r.hosts.length xk7,.int .i64 r.agent.roots,.slice xa1 r.agent.nodes.length xk1,.slice xa2 r.agent.sites.length xk2,.int .i64 r.agent.edges,.slice xa4 r.agent.outer.length xk4,.slice xa5 r.agent.inner.length xk5,.int .i64 r.count]:=hB;clear hb4 hg4 hs4)|(refine wpList_load_all rfl 46 (.tmp 6) rfl hB rfl Tryz.underlying46 rfl infoRntA ?_;simp only [Act.put,aput]))
   refine (c_impl_NewConsole _ _ _ r _ (RntO.toP hO2) hw).mono ?_
   rintro e u4 ⟨dG,rfl,hO4,hb4⟩
   rw [HBB.out]
   rw [HN.out] at hO4
   have hs4:=Below.size hb4
   replace hA:=hA.ext hb4
   replace HH:=RntP.keeps _ _ _ _ _ _ (Same.ext hb4) HH
   replace hX:=hX.trans hb4
   replace hP1:=CnsP.keeps _ _ _ _ _ _ (Same.ext hb4) hP1
   replace hW:=hW.ext hb4
   replace hO2:=RntO.keepsO.ext hO2 hb4
   replace hB:=hB.ext hb4
   clear hb4
   obtain ⟨_,_,rfl,⟨_,_,_,_,_,rfl,⟨ga0,gk0,rfl,_⟩,⟨_,_,_,_,_,rfl,⟨gb0,gl0,rfl,_⟩,⟨gb1,gl1,rfl,_⟩,⟨gb2,gl2,rfl,_⟩,⟨gb3,gl3,rfl,_⟩,⟨gb4,gl4,rfl,_⟩⟩,⟨ga6,gk6,rfl,_⟩,⟨ga7,gk7,rfl,_⟩,⟨_,_,_,_,rfl,_,_,⟨ga1,gk1,rfl,_⟩,⟨ga2,gk2,rfl,_⟩,⟨ga4,gk4,rfl,_⟩,⟨ga5,gk5,rfl,_⟩⟩,_⟩,⟨rfl,_⟩⟩:=id (CnsO.toP hO4)
   as_aux_lemma=>
    go_upto_region 8 with (refine wpList_store_box rfl 79 (.tmp 7) (.tmp 30) rfl u4.heap.size 0 [.slice ga0 N.run.sig.length gk0,.slice gb0 N.run.sort.tops.length gl0,.slice gb1 N.run.sort.nest.length gl1,.slice gb2 N.run.sort.sorts.length gl2,.slice gb3 N.run.sort.most.length gl3,.slice gb4 N.run.sort.apart.length gl4,.slice ga6 N.run.rules.length gk6,.slice ga7 N.run.hosts.length gk7,.int .i64 N.run.agent.roots,.slice ga1 N.run.agent.nodes.length gk1,.slice ga2 N.run.agent.sites.length gk2,.int .i64 N.run.agent.edges,.slice ga4 N.run.agent.outer.length gk4,.slice ga5 N.run.agent.inner.length gk5,.int .i64 N.run.count,.string N.log.durable,.string N.log.pending,.int .i64 N.log.count] _ rfl rfl (BoxAt.new _ _ [.slice none 0 0,.slice none 0 0,.slice none 0 0,.slice none 0 0,.slice none 0 0,.slice none 0 0,.slice none 0 0,.slice none 0 0,.int .i64 0,.slice none 0 0,.slice none 0 0,.int .i64 0,.slice none 0 0,.slice none 0 0,.int .i64 0,.string ⟨#[]⟩,.string ⟨#[]⟩,.int .i64 0] _ rfl) (by simp) infoCnsN (by simp [Value.oneCell']) ?_;intro s4 hG hg4 hs4;have hb4:Ext u4 s4:=((Ext.refl u4).alloc _).own hg4 (fun g hg=>by cases hg;exact Nat.le_refl _);have hzs4:u4.heap.size<s4.heap.size:=(by simp only [World.size_alloc] at hs4;omega);replace hA:=hA.ext hb4;replace HH:=RntP.keeps _ _ _ _ _ _ (Same.ext hb4) HH;replace hX:=hX.trans hb4;replace hP1:=CnsP.keeps _ _ _ _ _ _ (Same.ext hb4) hP1;replace hW:=hW.ext hb4;replace hO2:=RntO.keepsO.ext hO2 hb4;replace hB:=hB.ext hb4;replace hO4:=CnsO.keepsO.ext hO4 hb4;replace hG:BoxAt s4 u4.heap.size [.slice ga0 N.run.sig.length gk0,.slice gb0 N.run.sort.tops.length gl0,.slice gb1 N.run.sort.nest.length gl1,.slice gb2 N.run.sort.sorts.length gl2,.slice gb3 N.run.sort.most.length gl3,.slice gb4 N.run.sort.apart.length gl4,.slice ga6 N.run.rules.length gk6,.slice ga7 N.run.hosts.length gk7,.int .i64 N.run.agent.roots,.slice ga1 N.run.agent.nodes.length gk1,.slice ga2 N.run.agent.sites.length gk2,.int .i64 N.run.agent.edges,.slice ga4 N.run.agent.outer.length gk4,.slice ga5 N.run.agent.inner.length gk5,.int .i64 N.run.count,.string N.log.durable,.string N.log.pending,.int .i64 N.log.count]:=hG;clear hb4 hg4 hs4)
    refine wp_region_lit ?_
    refine wpList_load_all rfl 79 (.tmp 7) rfl hG rfl Tryz.underlying79 rfl infoCnsN ?_
    simp only [Act.put,aput]
    refine wpList_load_all rfl 79 (.tmp 4) rfl hW rfl Tryz.underlying79 rfl infoCnsN ?_
    simp only [Act.put,aput]
    go_wp2_with fail
    refine (c_laws_eqConsole _ _ _ _ _ _ N _ (CnsO.toP hO4) hP1).mono ?_
    rintro e u5 ⟨rfl,hb5⟩
    have hs5:=Below.size hb5
    replace hA:=hA.ext hb5
    replace HH:=RntP.keeps _ _ _ _ _ _ (Same.ext hb5) HH
    replace hX:=hX.trans hb5
    replace hP1:=CnsP.keeps _ _ _ _ _ _ (Same.ext hb5) hP1
    replace hW:=hW.ext hb5
    replace hO2:=RntO.keepsO.ext hO2 hb5
    replace hB:=hB.ext hb5
    replace hO4:=CnsO.keepsO.ext hO4 hb5
    replace hG:=hG.ext hb5
    clear hb5
    as_aux_lemma=>
     go_wp2_with fail
     refine wp_region_held_drew (S:=(fun w'=>Ext u5 w')) (by kernel_rfl) ?_ (fun hHeld=>?_)
     ·exact (Ext.refl u5).drew
     refine tkY 0 _ (fun w' hSw=>exec_load_boxL 46 (.tmp 6) rfl u3.heap.size [.slice xa0 r.sig.length xk0,.slice xb0 r.sort.tops.length xl0,.slice xb1 r.sort.nest.length xl1,.slice xb2 r.sort.sorts.length xl2,.slice xb3 r.sort.most.length xl3,.slice xb4 r.sort.apart.length xl4,.slice xa6 r.rules.length xk6,.slice xa7 r.hosts.length xk7,.int .i64 r.agent.roots,.slice xa1 r.agent.nodes.length xk1,.slice xa2 r.agent.sites.length xk2,.int .i64 r.agent.edges,.slice xa4 r.agent.outer.length xk4,.slice xa5 r.agent.inner.length xk5,.int .i64 r.count] rfl (hB.ext hSw) _ Tryz.underlying46 rfl infoRntA) ?_
     try simp only [Act.put,aput]
     refine tkY 1 _ (fun w' hSw=>exec_load_boxL 35 (.tmp 1) rfl w.heap.size [.slice ya0 r.sig.length yk0,.slice yb0 r.sort.tops.length yl0,.slice yb1 r.sort.nest.length yl1,.slice yb2 r.sort.sorts.length yl2,.slice yb3 r.sort.most.length yl3,.slice yb4 r.sort.apart.length yl4,.slice ya6 r.rules.length yk6,.slice ya7 r.hosts.length yk7,.int .i64 r.agent.roots,.slice ya1 r.agent.nodes.length yk1,.slice ya2 r.agent.sites.length yk2,.int .i64 r.agent.edges,.slice ya4 r.agent.outer.length yk4,.slice ya5 r.agent.inner.length yk5,.int .i64 r.count] rfl (hA.ext hSw) _ Tryz.underlying35 rfl infoRntL) ?_
     try simp only [Act.put,aput]
     refine wpAnyH_ready (rs:=[2]) (by kernel_rfl) (by simp) ?_
     refine AllReadyH.cons rfl (fun K hK=>?_) AllReadyH.nil
     (try simp only [aput])
     go_simp
     (go_at_call 11;refine (c_laws_toRuntime 0 w.heap.size _ r _ (RntP.keeps _ _ _ _ _ _ (Same.ext hHeld) HH) hw).mono ?_;rintro e w3 ⟨d3,rfl,hD3,hb3⟩)
     show K _ _
     refine hK.out _ _ (by exact hHeld.trans hb3) (fun hHeld=>?_)
     clear hK K
     try simp only [Act.put,aput]
     refine wpAnyH_ready (rs:=[3]) (by kernel_rfl) (by simp) ?_
     refine AllReadyH.cons rfl (fun K hK=>?_) AllReadyH.nil
     (try simp only [aput])
     go_simp
     (go_at_call 13;refine (c_laws_eqRuntime _ _ _ _ _ _ r _ (RntO.toP (RntO.keepsO.ext hO2 hHeld)) (RntO.toP hD3)).mono ?_;rintro e w4 ⟨rfl,hb5⟩)
     show K _ _
     refine hK.out _ _ (by exact hHeld.trans hb5) (fun hHeld=>?_)
     clear hK K
     try simp only [Act.put,aput]
     refine tkP 4 ?_ ?_ ?_;rotate_left;focus (intro w;go_simp;try with_reducible rfl)
     try simp only [Act.put,aput]
     refine wpAnyH_done (by kernel_rfl) ?_ _
     have hs6:=Below.size hHeld
     replace hA:=hA.ext hHeld
     replace HH:=RntP.keeps _ _ _ _ _ _ (Same.ext hHeld) HH
     replace hX:=hX.trans hHeld
     replace hP1:=CnsP.keeps _ _ _ _ _ _ (Same.ext hHeld) hP1
     replace hW:=hW.ext hHeld
     replace hO2:=RntO.keepsO.ext hO2 hHeld
     replace hB:=hB.ext hHeld
     replace hO4:=CnsO.keepsO.ext hO4 hHeld
     replace hG:=hG.ext hHeld
     clear hHeld
     as_aux_lemma=>
      go_wp2_with (refine wpList_load_all rfl 46 (.tmp 6) rfl hB rfl Tryz.underlying46 rfl infoRntA ?_;simp only [Act.put,aput])
      refine (c_laws_markRuntime _ _ _ r 1 _ hO2 (by omega) hM2 (by omega)).mono ?_
      rintro e u7 ⟨rfl,hM7,hO7⟩
      have hs7:=hO7.size
      replace hA:=hA.only hO7 (by first|exact .inl (by omega)|exact .inr (by omega))
      replace HH:=RntP.keeps _ _ _ _ _ _ (hO7.same (by first|exact .inl (by show _≤_;omega)|exact .inr (by show _≤_;omega))) HH
      replace hX:=hX.only hO7 (by omega)
      replace hP1:=CnsP.keeps _ _ _ _ _ _ (hO7.same (by first|exact .inl (by show _≤_;omega)|exact .inr (by show _≤_;omega))) hP1
      replace hW:=hW.only hO7 (by first|exact .inl (by omega)|exact .inr (by omega))
      replace hB:=hB.only hO7 (by first|exact .inl (by omega)|exact .inr (by omega))
      replace hO4:=CnsO.keepsO.only hO4 hO7 (by first|exact .inl (by show _≤_;omega)|exact .inr (by show _≤_;omega))
      replace hG:=hG.only hO7 (by first|exact .inl (by omega)|exact .inr (by omega))
      clear hM7 hO2 hB hO7
      as_aux_lemma=>
       go_upto_region 14 with fail
       refine wp_region_lit ?_
       refine wpList_plain rfl fun K hK=>?_
       unfold Oper.wp
       go_simp
       refine hK _ _ ?_
       clear hK
       refine wpList_plain rfl fun K hK=>?_
       unfold Oper.wp
       go_simp
       refine hK _ _ ?_
       clear hK
       refine wpList_plain rfl fun K hK=>?_
       unfold Oper.wp
       go_simp
       refine hK _ _ ?_
       clear hK
       refine wpList_load_allG rfl 79 (.tmp 7) rfl hG rfl Tryz.underlying79 rfl infoCnsN ?_
       simp only [Act.put,aput]
       refine wpList_load_allG rfl 79 (.tmp 4) rfl hW rfl Tryz.underlying79 rfl infoCnsN ?_
       simp only [Act.put,aput]
       go_wp2_with fail
       refine (c_laws_eqConsole _ _ _ _ _ _ N _ (CnsO.toP hO4) hP1).mono ?_
       rintro e u8 ⟨rfl,hb8⟩
       have hs8:=Below.size hb8
       replace hA:=hA.ext hb8
       replace HH:=RntP.keeps _ _ _ _ _ _ (Same.ext hb8) HH
       replace hX:=hX.trans hb8
       replace hP1:=CnsP.keeps _ _ _ _ _ _ (Same.ext hb8) hP1
       replace hW:=hW.ext hb8
       replace hO4:=CnsO.keepsO.ext hO4 hb8
       replace hG:=hG.ext hb8
       clear hb8
       as_aux_lemma=>
        go_wp2_with (refine wpList_load_all rfl 79 (.tmp 7) rfl hG rfl Tryz.underlying79 rfl infoCnsN ?_;simp only [Act.put,aput])
        refine (c_laws_markConsole _ _ _ N 1 _ hO4 (by omega) hM (by omega)).mono ?_
        rintro e u9 ⟨rfl,hM9,hO9⟩
        have hs9:=hO9.size
        replace hA:=hA.only hO9 (by first|exact .inl (by omega)|exact .inr (by omega))
        replace HH:=RntP.keeps _ _ _ _ _ _ (hO9.same (by first|exact .inl (by show _≤_;omega)|exact .inr (by show _≤_;omega))) HH
        replace hX:=hX.only hO9 (by omega)
        replace hP1:=CnsP.keeps _ _ _ _ _ _ (hO9.same (by first|exact .inl (by show _≤_;omega)|exact .inr (by show _≤_;omega))) hP1
        replace hW:=hW.only hO9 (by first|exact .inl (by omega)|exact .inr (by omega))
        replace hG:=hG.only hO9 (by first|exact .inl (by omega)|exact .inr (by omega))
        clear hO4 hO9
        replace hM9:=CnsO.toP hM9
        as_aux_lemma=>
         go_wp2_with (refine wpList_load_all rfl 79 (.tmp 7) rfl hG rfl Tryz.underlying79 rfl infoCnsN ?_;simp only [Act.put,aput])
         refine (c_laws_heldConsole _ _ _ N 1 _ hM9 (by omega) hM).mono ?_
         rintro e u10 ⟨rfl,hb10⟩
         have hs10:=Below.size hb10
         replace hA:=hA.ext hb10
         replace HH:=RntP.keeps _ _ _ _ _ _ (Same.ext hb10) HH
         replace hX:=hX.trans hb10
         replace hP1:=CnsP.keeps _ _ _ _ _ _ (Same.ext hb10) hP1
         replace hW:=hW.ext hb10
         replace hG:=hG.ext hb10
         replace hM9:=CnsP.keeps _ _ _ _ _ _ (Same.ext hb10) hM9
         clear hb10
         as_aux_lemma=>
          go_wp2_with (refine wpList_load_all rfl 35 (.tmp 1) rfl hA rfl Tryz.underlying35 rfl infoRntL ?_;simp only [Act.put,aput])
          refine (c_laws_toRuntime 0 w.heap.size _ r _ HH hw).mono ?_
          rintro e u11 ⟨d5,rfl,hD5,hb11⟩
          have hs11:=Below.size hb11
          replace hA:=hA.ext hb11
          replace HH:=RntP.keeps _ _ _ _ _ _ (Same.ext hb11) HH
          replace hX:=hX.trans hb11
          replace hP1:=CnsP.keeps _ _ _ _ _ _ (Same.ext hb11) hP1
          replace hW:=hW.ext hb11
          replace hG:=hG.ext hb11
          replace hM9:=CnsP.keeps _ _ _ _ _ _ (Same.ext hb11) hM9
          clear hb11
          go_wp2_with fail
          refine (c_impl_NewConsole _ _ _ r _ (RntO.toP hD5) hw).mono ?_
          rintro e u12 ⟨dH,rfl,hO12,hb12⟩
          rw [HBB.out]
          rw [HN.out] at hO12
          clear hD5
          have hs12:=Below.size hb12
          replace hA:=hA.ext hb12
          replace HH:=RntP.keeps _ _ _ _ _ _ (Same.ext hb12) HH
          replace hX:=hX.trans hb12
          replace hP1:=CnsP.keeps _ _ _ _ _ _ (Same.ext hb12) hP1
          replace hW:=hW.ext hb12
          replace hG:=hG.ext hb12
          replace hM9:=CnsP.keeps _ _ _ _ _ _ (Same.ext hb12) hM9
          clear hb12
          replace hO12:=CnsO.toP hO12
          obtain ⟨_,_,rfl,⟨_,_,_,_,_,rfl,⟨ja0,jk0,rfl,_⟩,⟨_,_,_,_,_,rfl,⟨jb0,jl0,rfl,_⟩,⟨jb1,jl1,rfl,_⟩,⟨jb2,jl2,rfl,_⟩,⟨jb3,jl3,rfl,_⟩,⟨jb4,jl4,rfl,_⟩⟩,⟨ja6,jk6,rfl,_⟩,⟨ja7,jk7,rfl,_⟩,⟨_,_,_,_,rfl,_,_,⟨ja1,jk1,rfl,_⟩,⟨ja2,jk2,rfl,_⟩,⟨ja4,jk4,rfl,_⟩,⟨ja5,jk5,rfl,_⟩⟩,_⟩,⟨rfl,_⟩⟩:=id hO12
          as_aux_lemma=>
           go_upto_region 25 with (refine wpList_store_box rfl 79 (.tmp 12) (.tmp 77) rfl u12.heap.size 0 [.slice ja0 N.run.sig.length jk0,.slice jb0 N.run.sort.tops.length jl0,.slice jb1 N.run.sort.nest.length jl1,.slice jb2 N.run.sort.sorts.length jl2,.slice jb3 N.run.sort.most.length jl3,.slice jb4 N.run.sort.apart.length jl4,.slice ja6 N.run.rules.length jk6,.slice ja7 N.run.hosts.length jk7,.int .i64 N.run.agent.roots,.slice ja1 N.run.agent.nodes.length jk1,.slice ja2 N.run.agent.sites.length jk2,.int .i64 N.run.agent.edges,.slice ja4 N.run.agent.outer.length jk4,.slice ja5 N.run.agent.inner.length jk5,.int .i64 N.run.count,.string N.log.durable,.string N.log.pending,.int .i64 N.log.count] _ rfl rfl (BoxAt.new _ _ [.slice none 0 0,.slice none 0 0,.slice none 0 0,.slice none 0 0,.slice none 0 0,.slice none 0 0,.slice none 0 0,.slice none 0 0,.int .i64 0,.slice none 0 0,.slice none 0 0,.int .i64 0,.slice none 0 0,.slice none 0 0,.int .i64 0,.string ⟨#[]⟩,.string ⟨#[]⟩,.int .i64 0] _ rfl) (by simp) infoCnsN (by simp [Value.oneCell']) ?_;intro s12 hH hg4 hs4;have hb4:Ext u12 s12:=((Ext.refl u12).alloc _).own hg4 (fun g hg=>by cases hg;exact Nat.le_refl _);have hzs12:u12.heap.size<s12.heap.size:=(by simp only [World.size_alloc] at hs4;omega);replace hA:=hA.ext hb4;replace HH:=RntP.keeps _ _ _ _ _ _ (Same.ext hb4) HH;replace hX:=hX.trans hb4;replace hP1:=CnsP.keeps _ _ _ _ _ _ (Same.ext hb4) hP1;replace hW:=hW.ext hb4;replace hG:=hG.ext hb4;replace hM9:=CnsP.keeps _ _ _ _ _ _ (Same.ext hb4) hM9;replace hO12:=CnsP.keeps _ _ _ _ _ _ (Same.ext hb4) hO12;replace hH:BoxAt s12 u12.heap.size [.slice ja0 N.run.sig.length jk0,.slice jb0 N.run.sort.tops.length jl0,.slice jb1 N.run.sort.nest.length jl1,.slice jb2 N.run.sort.sorts.length jl2,.slice jb3 N.run.sort.most.length jl3,.slice jb4 N.run.sort.apart.length jl4,.slice ja6 N.run.rules.length jk6,.slice ja7 N.run.hosts.length jk7,.int .i64 N.run.agent.roots,.slice ja1 N.run.agent.nodes.length jk1,.slice ja2 N.run.agent.sites.length jk2,.int .i64 N.run.agent.edges,.slice ja4 N.run.agent.outer.length jk4,.slice ja5 N.run.agent.inner.length jk5,.int .i64 N.run.count,.string N.log.durable,.string N.log.pending,.int .i64 N.log.count]:=hH;clear hb4 hg4 hs4)
           refine wp_region_lit ?_
           refine wpList_load_all rfl 79 (.tmp 12) rfl hH rfl Tryz.underlying79 rfl infoCnsN ?_
           simp only [Act.put,aput]
           refine wpList_load_all rfl 79 (.tmp 4) rfl hW rfl Tryz.underlying79 rfl infoCnsN ?_
           simp only [Act.put,aput]
           go_wp2_with fail
           refine (c_laws_eqConsole _ _ _ _ _ _ N _ hO12 hP1).mono ?_
           rintro e u13 ⟨rfl,hb13⟩
           have hs13:=Below.size hb13
           replace hA:=hA.ext hb13
           replace HH:=RntP.keeps _ _ _ _ _ _ (Same.ext hb13) HH
           replace hX:=hX.trans hb13
           replace hP1:=CnsP.keeps _ _ _ _ _ _ (Same.ext hb13) hP1
           replace hW:=hW.ext hb13
           replace hG:=hG.ext hb13
           replace hM9:=CnsP.keeps _ _ _ _ _ _ (Same.ext hb13) hM9
           replace hO12:=CnsP.keeps _ _ _ _ _ _ (Same.ext hb13) hO12
           replace hH:=hH.ext hb13
           clear hb13
           as_aux_lemma=>
            go_wp2_with (refine wpList_load_all rfl 79 (.tmp 7) rfl hG rfl Tryz.underlying79 rfl infoCnsN ?_;simp only [Act.put,aput])
            refine (c_laws_heldConsole _ _ _ N 1 _ hM9 (by omega) hM).mono ?_
            rintro e u14 ⟨rfl,hb14⟩
            have hs14:=Below.size hb14
            replace hA:=hA.ext hb14
            replace HH:=RntP.keeps _ _ _ _ _ _ (Same.ext hb14) HH
            replace hX:=hX.trans hb14
            replace hP1:=CnsP.keeps _ _ _ _ _ _ (Same.ext hb14) hP1
            replace hW:=hW.ext hb14
            replace hG:=hG.ext hb14
            replace hM9:=CnsP.keeps _ _ _ _ _ _ (Same.ext hb14) hM9
            replace hO12:=CnsP.keeps _ _ _ _ _ _ (Same.ext hb14) hO12
            replace hH:=hH.ext hb14
            clear hb14
            go_wp2
            go_ret
            exact ⟨rfl,hX⟩
end Go.Proofs.YtccjepndhlobpaaGreatDoor
