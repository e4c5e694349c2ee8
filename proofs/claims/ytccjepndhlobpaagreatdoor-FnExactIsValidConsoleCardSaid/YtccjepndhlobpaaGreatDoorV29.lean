/-
  Walks: consoles are valid.
-/
import Derived.Test.YtccjepndhlobpaaGreatDoorCA
import Derived.Test.YtccjepndhlobpaaGreatDoorCW
import Derived.Test.YtccjepndhlobpaaGreatDoorB0
namespace Go.Proofs.YtccjepndhlobpaaGreatDoor
open Go.RowKit
set_option linter.unusedVariables false
set_option linter.unusedSimpArgs false
/-- A console is valid. -/
def cnsB (x:Cns):Bool:=rntB x.run && validB x.log.durable x.log.pending x.log.count
attribute [local irreducible] rntB validB
set_option maxRecDepth 100000 in
set_option maxHeartbeats 3200000 in
theorem c_spec_IsValidConsole (lo hi:Nat) (cs:List Value) (x:Cns) (w:World) (hE:Env w) (h:CnsP lo hi w cs x) (hwt:wtCns x≤1048576) :
 Calls Tryz.prog 47 #[.agg cs.toArray] w fun e w'=>e=.returned (.bool (cnsB x))∧Ext w w':=by
 have hwc:wtCns x=wtRnt x.run+(x.log.durable.size+x.log.pending.size):=rfl
 have hw1:wtRnt x.run≤1048576:=by omega
 have hd:x.log.durable.size≤1048576:=by omega
 have hp:x.log.pending.size≤1048576:=by omega
 clear hwt hwc
 have HH:=h
 obtain ⟨cr,cl,rfl,E1,E2⟩:=h
 obtain ⟨v0,cc1,v6,v7,cc8,rfl,_,ES,_,_,EB,_⟩:=id E1
 obtain ⟨s0,s1,s2,s3,s4,rfl,_⟩:=id ES
 obtain ⟨yy1,yy2,yy4,yy5,rfl,_⟩:=id EB
 obtain ⟨rfl,l1,l2,l3⟩:=id E2
 clear ES EB
 change Calls Tryz.prog 47 #[.agg #[v0,s0,s1,s2,s3,s4,v6,v7,.int .i64 x.run.agent.roots,yy1,yy2,.int .i64 x.run.agent.edges,yy4,yy5,.int .i64 x.run.count,.string x.log.durable,.string x.log.pending,.int .i64 x.log.count]] w _
 obtain ⟨W0,hW0,hbx,hX,hz⟩:=box_facts w [v0,s0,s1,s2,s3,s4,v6,v7,.int .i64 x.run.agent.roots,yy1,yy2,.int .i64 x.run.agent.edges,yy4,yy5,.int .i64 x.run.count,.string x.log.durable,.string x.log.pending,.int .i64 x.log.count] 79
 have p0:=(hbx 0 _ rfl).1
 have p1:=(hbx 1 _ rfl).1
 have p2:=(hbx 2 _ rfl).1
 have p3:=(hbx 3 _ rfl).1
 have p4:=(hbx 4 _ rfl).1
 have p5:=(hbx 5 _ rfl).1
 have p6:=(hbx 6 _ rfl).1
 have p7:=(hbx 7 _ rfl).1
 have p8:=(hbx 8 _ rfl).1
 have p9:=(hbx 9 _ rfl).1
 have p10:=(hbx 10 _ rfl).1
 have p11:=(hbx 11 _ rfl).1
 have p12:=(hbx 12 _ rfl).1
 have p13:=(hbx 13 _ rfl).1
 have p14:=(hbx 14 _ rfl).1
 have p15:=(hbx 15 _ rfl).1
 have p16:=(hbx 16 _ rfl).1
 have p17:=(hbx 17 _ rfl).1
 clear hz hbx
 replace E1:=RntP.keeps _ _ _ _ _ _ (Same.ext hX) E1
 go_enter Tryz.func47,Tryz.ntmps47
 go_wp2_with fail
 refine (c_spec_l13Good lo hi _ x.run _ E1 hw1).mono ?_
 rintro e y ⟨rfl,hb⟩
 replace p0:=hb.keep p0
 replace p1:=hb.keep p1
 replace p2:=hb.keep p2
 replace p3:=hb.keep p3
 replace p4:=hb.keep p4
 replace p5:=hb.keep p5
 replace p6:=hb.keep p6
 replace p7:=hb.keep p7
 replace p8:=hb.keep p8
 replace p9:=hb.keep p9
 replace p10:=hb.keep p10
 replace p11:=hb.keep p11
 replace p12:=hb.keep p12
 replace p13:=hb.keep p13
 replace p14:=hb.keep p14
 replace p15:=hb.keep p15
 replace p16:=hb.keep p16
 replace p17:=hb.keep p17
 cases hr:rntB x.run
 ·have HR:=Lib.hid hr
  clear hr
  go_wp2
  go_ret
  exact ⟨ret_bool (by unfold cnsB;rw [HR.out];rfl),hX.trans hb⟩
 ·have HR:=Lib.hid hr
  clear hr
  go_wp2_with fail
  refine (c_spec_l13Valid _ _ _ _ hd hp).mono ?_
  rintro e y9 ⟨rfl,hb2⟩
  go_wp2
  go_ret
  exact ⟨ret_bool (by unfold cnsB;rw [HR.out];rfl),(hX.trans hb).trans hb2⟩
set_option maxRecDepth 100000 in
set_option maxHeartbeats 3200000 in
theorem c_impl_IsValidConsole (lo hi:Nat) (cs:List Value) (x:Cns) (w:World) (hE:Env w) (h:CnsP lo hi w cs x) (hwt:wtCns x≤1048576) :
 Calls Tryz.prog 49 #[.agg cs.toArray] w fun e w'=>e=.returned (.bool (cnsB x))∧Ext w w':=by
 have hwc:wtCns x=wtRnt x.run+(x.log.durable.size+x.log.pending.size):=rfl
 have hw1:wtRnt x.run≤1048576:=by omega
 have hd:x.log.durable.size≤1048576:=by omega
 have hp:x.log.pending.size≤1048576:=by omega
 clear hwt hwc
 have HH:=h
 obtain ⟨cr,cl,rfl,E1,E2⟩:=h
 obtain ⟨v0,cc1,v6,v7,cc8,rfl,_,ES,_,_,EB,_⟩:=id E1
 obtain ⟨s0,s1,s2,s3,s4,rfl,_⟩:=id ES
 obtain ⟨yy1,yy2,yy4,yy5,rfl,_⟩:=id EB
 obtain ⟨rfl,l1,l2,l3⟩:=id E2
 clear ES EB
 change Calls Tryz.prog 49 #[.agg #[v0,s0,s1,s2,s3,s4,v6,v7,.int .i64 x.run.agent.roots,yy1,yy2,.int .i64 x.run.agent.edges,yy4,yy5,.int .i64 x.run.count,.string x.log.durable,.string x.log.pending,.int .i64 x.log.count]] w _
 obtain ⟨W0,hW0,hbx,hX,hz⟩:=box_facts w [v0,s0,s1,s2,s3,s4,v6,v7,.int .i64 x.run.agent.roots,yy1,yy2,.int .i64 x.run.agent.edges,yy4,yy5,.int .i64 x.run.count,.string x.log.durable,.string x.log.pending,.int .i64 x.log.count] 79
 have p0:=(hbx 0 _ rfl).1
 have p1:=(hbx 1 _ rfl).1
 have p2:=(hbx 2 _ rfl).1
 have p3:=(hbx 3 _ rfl).1
 have p4:=(hbx 4 _ rfl).1
 have p5:=(hbx 5 _ rfl).1
 have p6:=(hbx 6 _ rfl).1
 have p7:=(hbx 7 _ rfl).1
 have p8:=(hbx 8 _ rfl).1
 have p9:=(hbx 9 _ rfl).1
 have p10:=(hbx 10 _ rfl).1
 have p11:=(hbx 11 _ rfl).1
 have p12:=(hbx 12 _ rfl).1
 have p13:=(hbx 13 _ rfl).1
 have p14:=(hbx 14 _ rfl).1
 have p15:=(hbx 15 _ rfl).1
 have p16:=(hbx 16 _ rfl).1
 have p17:=(hbx 17 _ rfl).1
 clear hz hbx
 replace E1:=RntP.keeps _ _ _ _ _ _ (Same.ext hX) E1
 go_enter Tryz.func49,Tryz.ntmps49
 go_wp2_with fail
 refine (c_impl_IsRuntime lo hi _ x.run _ E1 hw1).mono ?_
 rintro e y ⟨rfl,hb⟩
 replace p0:=hb.keep p0
 replace p1:=hb.keep p1
 replace p2:=hb.keep p2
 replace p3:=hb.keep p3
 replace p4:=hb.keep p4
 replace p5:=hb.keep p5
 replace p6:=hb.keep p6
 replace p7:=hb.keep p7
 replace p8:=hb.keep p8
 replace p9:=hb.keep p9
 replace p10:=hb.keep p10
 replace p11:=hb.keep p11
 replace p12:=hb.keep p12
 replace p13:=hb.keep p13
 replace p14:=hb.keep p14
 replace p15:=hb.keep p15
 replace p16:=hb.keep p16
 replace p17:=hb.keep p17
 cases hr:rntB x.run
 ·have HR:=Lib.hid hr
  clear hr
  go_wp2
  go_ret
  exact ⟨ret_bool (by unfold cnsB;rw [HR.out];rfl),hX.trans hb⟩
 ·have HR:=Lib.hid hr
  clear hr
  go_wp2_with fail
  refine (c_impl_IsValidLog _ _ _ _ (hE.ext (hX.trans hb)) hd hp).mono ?_
  rintro e y9 ⟨rfl,hb2⟩
  go_wp2
  go_ret
  exact ⟨ret_bool (by unfold cnsB;rw [HR.out];rfl),(hX.trans hb).trans hb2⟩
end Go.Proofs.YtccjepndhlobpaaGreatDoor
