/-
  Walks: the marks of consoles.
-/
import Derived.Test.YtccjepndhlobpaaGreatDoorV36
import Derived.Test.YtccjepndhlobpaaGreatDoorS4
import Derived.Test.YtccjepndhlobpaaGreatDoorS5
namespace Go.Proofs.YtccjepndhlobpaaGreatDoor
open Go.RowKit
set_option linter.unusedVariables false
set_option linter.unusedSimpArgs false
set_option maxRecDepth 100000
set_option maxHeartbeats 6400000
theorem RntP.keepsE {lo hi:Nat} {w w':World} {cs:List Value} {x:Rnt} (h:RntP lo hi w cs x) (hx:Ext w w'):RntP lo hi w' cs x:=RntP.keeps _ _ _ _ _ _ (Same.ext hx) h
attribute [local irreducible] cRnt mkRnt

theorem c_laws_markConsole (lo hi:Nat) (cs:List Value) (x:Cns) (k:Int) (w:World) (h:CnsO lo hi w cs x) (hk:0≤k) (hk1:k+cRnt x.run≤1000000000) (hb:hi≤w.heap.size) :
 Calls Tryz.prog 44 #[.agg cs.toArray,.int .i64 k] w fun e w'=>e=.returned (.int .i64 (k+cRnt x.run))∧CnsO lo hi w' cs ⟨mkRnt k x.run,x.log⟩∧Only lo hi w w':=by
 obtain ⟨cr,cl,rfl,E1,E2⟩:=h
 obtain ⟨v0,cc1,v6,v7,cc8,_,_,_,_,_,_,_,_,_,_,rfl,_,⟨s0,s1,s2,s3,s4,_,_,_,_,_,_,_,_,_,_,rfl,_⟩,_,_,⟨y1,y2,y4,y5,_,_,_,_,_,_,_,_,rfl,_⟩,_⟩:=id E1
 obtain ⟨rfl,l1,l2,l3⟩:=id E2
 change Calls Tryz.prog 44 #[.agg #[v0,s0,s1,s2,s3,s4,v6,v7,.int .i64 x.run.agent.roots,y1,y2,.int .i64 x.run.agent.edges,y4,y5,.int .i64 x.run.count,.string x.log.durable,.string x.log.pending,.int .i64 x.log.count],.int .i64 k] w _
 obtain ⟨W0,hW0,hA,hx0,hz⟩:=box_facts w [v0,s0,s1,s2,s3,s4,v6,v7,.int .i64 x.run.agent.roots,y1,y2,.int .i64 x.run.agent.edges,y4,y5,.int .i64 x.run.count,.string x.log.durable,.string x.log.pending,.int .i64 x.log.count] 79
 have hzz:w.heap.size<W0.heap.size:=by omega
 clear hz
 replace E1:=RntO.keepsO.ext E1 hx0
 change RntO lo hi W0 [v0,s0,s1,s2,s3,s4,v6,v7,.int .i64 x.run.agent.roots,y1,y2,.int .i64 x.run.agent.edges,y4,y5,.int .i64 x.run.count] _ at E1
 go_enter Tryz.func44,Tryz.ntmps44
 go_wp2_with (refine wpList_load_box rfl 46 (.tmp 5) rfl w.heap.size 0 [v0,s0,s1,s2,s3,s4,v6,v7,.int .i64 x.run.agent.roots,y1,y2,.int .i64 x.run.agent.edges,y4,y5,.int .i64 x.run.count] _ rfl hA (fun j v hj=>by have hj':j<15:=(List.getElem?_eq_some_iff.1 hj).1;rcases j with _|_|_|_|_|_|_|_|_|_|_|_|_|_|_|j <;> first|exact hj|omega) _ Tryz.underlying46 rfl infoRntA ?_;simp only [Act.put,aput])
 refine (c_laws_markRuntime lo hi _ x.run k _ E1 hk hk1 (by omega)).mono ?_
 rintro e W1 ⟨rfl,hM,hO⟩
 go_wp2
 go_ret
 exact ⟨rfl,⟨_,_,rfl,hM,E2⟩,(Only.of_ext hx0).trans hO⟩
theorem c_laws_heldConsole (lo hi:Nat) (cs:List Value) (x:Cns) (k:Int) (w:World) (h:CnsP lo hi w cs ⟨mkRnt k x.run,x.log⟩) (hk:0≤k) (hk1:k+cRnt x.run≤1000000000) :
 Calls Tryz.prog 45 #[.agg cs.toArray,.int .i64 k] w fun e w'=>e=.returned (.int .i64 (k+cRnt x.run))∧Ext w w':=by
 obtain ⟨cr,cl,rfl,E1,E2⟩:=h
 obtain ⟨v0,cc1,v6,v7,cc8,rfl,_,⟨s0,s1,s2,s3,s4,rfl,_⟩,_,_,⟨y1,y2,y4,y5,rfl,_⟩,_⟩:=id E1
 obtain ⟨rfl,l1,l2,l3⟩:=id E2
 change Calls Tryz.prog 45 #[.agg #[v0,s0,s1,s2,s3,s4,v6,v7,.int .i64 (mkRnt k x.run).agent.roots,y1,y2,.int .i64 (mkRnt k x.run).agent.edges,y4,y5,.int .i64 (mkRnt k x.run).count,.string x.log.durable,.string x.log.pending,.int .i64 x.log.count],.int .i64 k] w _
 obtain ⟨W0,hW0,hA,hx0,hz⟩:=box_facts w [v0,s0,s1,s2,s3,s4,v6,v7,.int .i64 (mkRnt k x.run).agent.roots,y1,y2,.int .i64 (mkRnt k x.run).agent.edges,y4,y5,.int .i64 (mkRnt k x.run).count,.string x.log.durable,.string x.log.pending,.int .i64 x.log.count] 79
 have hzz:w.heap.size<W0.heap.size:=by omega
 clear hz
 replace E1:=RntP.keepsE E1 hx0
 change RntP lo hi W0 [v0,s0,s1,s2,s3,s4,v6,v7,.int .i64 (mkRnt k x.run).agent.roots,y1,y2,.int .i64 (mkRnt k x.run).agent.edges,y4,y5,.int .i64 (mkRnt k x.run).count] _ at E1
 go_enter Tryz.func45,Tryz.ntmps45
 go_wp2_with (refine wpList_load_box rfl 46 (.tmp 5) rfl w.heap.size 0 [v0,s0,s1,s2,s3,s4,v6,v7,.int .i64 (mkRnt k x.run).agent.roots,y1,y2,.int .i64 (mkRnt k x.run).agent.edges,y4,y5,.int .i64 (mkRnt k x.run).count] _ rfl hA (fun j v hj=>by have hj':j<15:=(List.getElem?_eq_some_iff.1 hj).1;rcases j with _|_|_|_|_|_|_|_|_|_|_|_|_|_|_|j <;> first|exact hj|omega) _ Tryz.underlying46 rfl infoRntA ?_;simp only [Act.put,aput])
 refine (c_laws_heldRuntime lo hi _ x.run k _ E1 hk hk1).mono ?_
 rintro e W1 ⟨rfl,hb1⟩
 have hn:¬(k+((cRnt x.run:Nat):Int)<0):=by omega
 go_wp2
 go_ret
 exact ⟨rfl,hx0.trans hb1⟩
end Go.Proofs.YtccjepndhlobpaaGreatDoor
