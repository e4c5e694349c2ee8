/-
  Proved facts that the law leans on.
-/
import Derived.Test.YtnobdioccfeokaaGreatDoorZE1
import Derived.Test.YtnobdioccfeokaaGreatDoorZE13
import Derived.Test.YtnobdioccfeokaaGreatDoorZE14
import Derived.Test.YtnobdioccfeokaaGreatDoorRows
import Derived.WalkSpells
import Derived.WalkLawsBesides
import Derived.BigQuiet
import Derived.Deep.DeepMust
namespace Go.Proofs.YtnobdioccfeokaaGreatDoor
open Go.RowKit
set_option linter.unusedVariables false
set_option maxRecDepth 100000
set_option maxHeartbeats 16000000
attribute [local irreducible] ar Der At kO mkL cnL lC szR wtL cQ
theorem oh (r:Rnt) (W0:pd) (hS:io r≤1048576):ar Tryz.prog W0.toB Tryz.f3.ntmps (Ej 14 (Tryz.f3.body.getD .skip)) [(1,.sy (.bx 10001 0)),(10001,.tk (.bx [.d (.l 3 (r.sig.map Ctl.D)),.d (.l 1 (r.sort.tops.map D.i)),.d (.l 1 (r.sort.nest.map DI)),.d (.l 1 (r.sort.sorts.map DI)),.d (.l 1 (r.sort.most.map D.i)),.d (.l 2 (r.sort.apart.map cH)),.d (.l 13 (r.rules.map Rul.D)),.d (.l 1 (r.hosts.map D.s)),.d (.i r.agent.roots),.d (.l 3 (r.agent.nodes.map Nd.D)),.d (.l 1 (r.agent.sites.map D.i)),.d (.i r.agent.edges),.d (.l 1 (r.agent.outer.map D.s)),.d (.l 2 (r.agent.inner.map Wr.D)),.d (.i r.count)])),(2,.sy (.d (.b false))),(4,.sy (.d (.l 1 ((cQ r).1.map D.i)))),(5,.sy (.d (.b (cQ r).2))),(7,.sy (.k 30029)),(30029,.tk (.own (.l 1 ((mkL mkI c1 (1) (cQ r).1).map D.i)) none none)),(8,.sy (.d (.b (cQ r).2))),(10,.sy (.d (.i (1+(cnL c1 (cQ r).1:Nat)))))] (bodyPost Tryz.prog Tryz.f3 (post W0 (.d (.b true)))):=by
 have hb:=kH r hS
 have o0:=jh r (by omega)
 have fi:=ki r (by omega)
 have hB:=FP r (by omega)
 refine CP ?_
 have h10:=qp (cQ r).1 (1) (by omega) (by omega)
 refine lF ?_
 refine CP ?_
 clear h10
 refine AX (wR _ _ _) ?_
 refine CP ?_
 clear o0
 have eB0:=gG (cQ r).1
 refine lF ?_
 refine CP ?_
 have h10:=qp (cQ r).1 (1) (by omega) (by omega)
 refine lF ?_
 refine CP ?_
 exact aj
theorem oJ (r:Rnt) (W0:pd) (hS:io r≤1048576):ar Tryz.prog W0.toB Tryz.f3.ntmps (Ej 11 (Tryz.f3.body.getD .skip)) [(1,.sy (.bx 10001 0)),(10001,.tk (.bx [.d (.l 3 (r.sig.map Ctl.D)),.d (.l 1 (r.sort.tops.map D.i)),.d (.l 1 (r.sort.nest.map DI)),.d (.l 1 (r.sort.sorts.map DI)),.d (.l 1 (r.sort.most.map D.i)),.d (.l 2 (r.sort.apart.map cH)),.d (.l 13 (r.rules.map Rul.D)),.d (.l 1 (r.hosts.map D.s)),.d (.i r.agent.roots),.d (.l 3 (r.agent.nodes.map Nd.D)),.d (.l 1 (r.agent.sites.map D.i)),.d (.i r.agent.edges),.d (.l 1 (r.agent.outer.map D.s)),.d (.l 2 (r.agent.inner.map Wr.D)),.d (.i r.count)])),(2,.sy (.d (.b false))),(4,.sy (.d (.l 1 ((cQ r).1.map D.i)))),(5,.sy (.d (.b (cQ r).2))),(7,.sy (.k 30029)),(30029,.tk (.own (.l 1 ((cQ r).1.map D.i)) none none)),(8,.sy (.d (.b (cQ r).2))),(9,.sy (.d (.i (1+(Fi r:Nat)))))] (bodyPost Tryz.prog Tryz.f3 (post W0 (.d (.b true)))):=by
 have hb:=kH r hS
 have o0:=jh r (by omega)
 have fi:=ki r (by omega)
 have hB:=FP r (by omega)
 refine CP ?_
 have eB0:=gG (cQ r).1
 refine lF ?_
 refine CP ?_
 clear eB0
 have m10:=ef (cQ r).1 (1) (by omega) (by omega)
 refine lx ?_
 refine CU ?_
 refine dB (bo ?_)
 refine Jh [(1,.sy (.bx 10001 0)),(10001,.tk (.bx [.d (.l 3 (r.sig.map Ctl.D)),.d (.l 1 (r.sort.tops.map D.i)),.d (.l 1 (r.sort.nest.map DI)),.d (.l 1 (r.sort.sorts.map DI)),.d (.l 1 (r.sort.most.map D.i)),.d (.l 2 (r.sort.apart.map cH)),.d (.l 13 (r.rules.map Rul.D)),.d (.l 1 (r.hosts.map D.s)),.d (.i r.agent.roots),.d (.l 3 (r.agent.nodes.map Nd.D)),.d (.l 1 (r.agent.sites.map D.i)),.d (.i r.agent.edges),.d (.l 1 (r.agent.outer.map D.s)),.d (.l 2 (r.agent.inner.map Wr.D)),.d (.i r.count)])),(2,.sy (.d (.b false))),(4,.sy (.d (.l 1 ((cQ r).1.map D.i)))),(5,.sy (.d (.b (cQ r).2))),(7,.sy (.k 30029)),(30029,.tk (.own (.l 1 ((mkL mkI c1 (1) (cQ r).1).map D.i)) none none)),(8,.sy (.d (.b (cQ r).2))),(10,.sy (.d (.i (1+(cnL c1 (cQ r).1:Nat)))))] ?_
 exact oh r W0 hS
theorem oG (r:Rnt) (W0:pd) (hS:io r≤1048576):ar Tryz.prog W0.toB Tryz.f3.ntmps (Ej 8 (Tryz.f3.body.getD .skip)) [(1,.sy (.bx 10001 0)),(10001,.tk (.bx [.d (.l 3 (r.sig.map Ctl.D)),.d (.l 1 (r.sort.tops.map D.i)),.d (.l 1 (r.sort.nest.map DI)),.d (.l 1 (r.sort.sorts.map DI)),.d (.l 1 (r.sort.most.map D.i)),.d (.l 2 (r.sort.apart.map cH)),.d (.l 13 (r.rules.map Rul.D)),.d (.l 1 (r.hosts.map D.s)),.d (.i r.agent.roots),.d (.l 3 (r.agent.nodes.map Nd.D)),.d (.l 1 (r.agent.sites.map D.i)),.d (.i r.agent.edges),.d (.l 1 (r.agent.outer.map D.s)),.d (.l 2 (r.agent.inner.map Wr.D)),.d (.i r.count)])),(2,.sy (.d (.b false))),(4,.sy (.d (.l 1 ((cQ r).1.map D.i)))),(5,.sy (.d (.b (cQ r).2))),(6,.sy (.bx 10006 0)),(10006,.tk (.bx [.k 30026,.k 31026,.k 32026,.k 33026,.k 34026,.k 35026,.k 36026,.k 37026,.d (.i r.agent.roots),.k 39026,.k 40026,.d (.i r.agent.edges),.k 42026,.k 43026,.d (.i r.count)])),(30026,.tk (.own (.l 3 (r.sig.map Ctl.D)) none none)),(31026,.tk (.own (.l 1 (r.sort.tops.map D.i)) none none)),(32026,.tk (.own (.l 1 (r.sort.nest.map DI)) none none)),(33026,.tk (.own (.l 1 (r.sort.sorts.map DI)) none none)),(34026,.tk (.own (.l 1 (r.sort.most.map D.i)) none none)),(35026,.tk (.own (.l 2 (r.sort.apart.map cH)) none none)),(36026,.tk (.own (.l 13 (r.rules.map Rul.D)) none none)),(37026,.tk (.own (.l 1 (r.hosts.map D.s)) none none)),(39026,.tk (.own (.l 3 (r.agent.nodes.map Nd.D)) none none)),(40026,.tk (.own (.l 1 (r.agent.sites.map D.i)) none none)),(42026,.tk (.own (.l 1 (r.agent.outer.map D.s)) none none)),(43026,.tk (.own (.l 2 (r.agent.inner.map Wr.D)) none none)),(7,.sy (.k 30029)),(30029,.tk (.own (.l 1 ((cQ r).1.map D.i)) none none)),(8,.sy (.d (.b (cQ r).2))),(40,.sy (.d (.b false)))] (bodyPost Tryz.prog Tryz.f3 (post W0 (.d (.b true)))):=by
 have hb:=kH r hS
 have o0:=jh r (by omega)
 have fi:=ki r (by omega)
 have hB:=FP r (by omega)
 refine CP ?_
 have e0:=sP r
 refine lF ?_
 refine CP ?_
 have m0:=rt r (1) (by omega) (by omega)
 refine mS ?_
 refine CU ?_
 refine dB (bo ?_)
 refine Jh [(1,.sy (.bx 10001 0)),(10001,.tk (.bx [.d (.l 3 (r.sig.map Ctl.D)),.d (.l 1 (r.sort.tops.map D.i)),.d (.l 1 (r.sort.nest.map DI)),.d (.l 1 (r.sort.sorts.map DI)),.d (.l 1 (r.sort.most.map D.i)),.d (.l 2 (r.sort.apart.map cH)),.d (.l 13 (r.rules.map Rul.D)),.d (.l 1 (r.hosts.map D.s)),.d (.i r.agent.roots),.d (.l 3 (r.agent.nodes.map Nd.D)),.d (.l 1 (r.agent.sites.map D.i)),.d (.i r.agent.edges),.d (.l 1 (r.agent.outer.map D.s)),.d (.l 2 (r.agent.inner.map Wr.D)),.d (.i r.count)])),(2,.sy (.d (.b false))),(4,.sy (.d (.l 1 ((cQ r).1.map D.i)))),(5,.sy (.d (.b (cQ r).2))),(7,.sy (.k 30029)),(30029,.tk (.own (.l 1 ((cQ r).1.map D.i)) none none)),(8,.sy (.d (.b (cQ r).2))),(9,.sy (.d (.i (1+(Fi r:Nat)))))] ?_
 exact oJ r W0 hS
theorem pL (r:Rnt):FnD Tryz.prog 3 [r.D] (.d (.b true)):=by
 refine af Tryz.func3 (fun hw W0=>?_)
 have f0:=vH r 1048576 (by omega) (by omega)
 by_cases s0:((io r:Nat):Int)≤1048576
 rotate_left
 ·rw [szN s0] at f0
  refine kgo ?_
  exact aj
 rw [szP s0] at f0
 have hb:=kH r (by omega)
 have o0:=jh r (by omega)
 have fi:=ki r (by omega)
 have g0:=FnO.toD (n:=14) o0
 refine kgo ?_
 refine aJ (fun h=>?_) (fun _=>?_)
 ·omega
 clear f0
 refine kgo ?_
 have fs:=pM r (by omega)
 refine aN ?_
 clear g0 fs
 refine kgo ?_
 refine AX (wR _ _ _) ?_
 refine CP ?_
 have eB0:=gG (cQ r).1
 refine lF ?_
 refine CU ?_
 refine dB (bo ?_)
 refine nH (ds:=(cQ r).1.map D.i) 30029 (fun d hd=>by obtain ⟨n,_,rfl⟩:=List.mem_map.1 hd;exact ⟨rfl,rfl⟩) ?_
 refine Jh [(1,.sy (.bx 10001 0)),(10001,.tk (.bx [.d (.l 3 (r.sig.map Ctl.D)),.d (.l 1 (r.sort.tops.map D.i)),.d (.l 1 (r.sort.nest.map DI)),.d (.l 1 (r.sort.sorts.map DI)),.d (.l 1 (r.sort.most.map D.i)),.d (.l 2 (r.sort.apart.map cH)),.d (.l 13 (r.rules.map Rul.D)),.d (.l 1 (r.hosts.map D.s)),.d (.i r.agent.roots),.d (.l 3 (r.agent.nodes.map Nd.D)),.d (.l 1 (r.agent.sites.map D.i)),.d (.i r.agent.edges),.d (.l 1 (r.agent.outer.map D.s)),.d (.l 2 (r.agent.inner.map Wr.D)),.d (.i r.count)])),(2,.sy (.d (.b false))),(4,.sy (.d (.l 1 ((cQ r).1.map D.i)))),(5,.sy (.d (.b (cQ r).2))),(6,.sy (.bx 10006 0)),(10006,.tk (.bx [.k 30026,.k 31026,.k 32026,.k 33026,.k 34026,.k 35026,.k 36026,.k 37026,.d (.i r.agent.roots),.k 39026,.k 40026,.d (.i r.agent.edges),.k 42026,.k 43026,.d (.i r.count)])),(30026,.tk (.own (.l 3 (r.sig.map Ctl.D)) none none)),(31026,.tk (.own (.l 1 (r.sort.tops.map D.i)) none none)),(32026,.tk (.own (.l 1 (r.sort.nest.map DI)) none none)),(33026,.tk (.own (.l 1 (r.sort.sorts.map DI)) none none)),(34026,.tk (.own (.l 1 (r.sort.most.map D.i)) none none)),(35026,.tk (.own (.l 2 (r.sort.apart.map cH)) none none)),(36026,.tk (.own (.l 13 (r.rules.map Rul.D)) none none)),(37026,.tk (.own (.l 1 (r.hosts.map D.s)) none none)),(39026,.tk (.own (.l 3 (r.agent.nodes.map Nd.D)) none none)),(40026,.tk (.own (.l 1 (r.agent.sites.map D.i)) none none)),(42026,.tk (.own (.l 1 (r.agent.outer.map D.s)) none none)),(43026,.tk (.own (.l 2 (r.agent.inner.map Wr.D)) none none)),(7,.sy (.k 30029)),(30029,.tk (.own (.l 1 ((cQ r).1.map D.i)) none none)),(8,.sy (.d (.b (cQ r).2))),(40,.sy (.d (.b false)))] ?_
 refine eX ?_
 refine ci ?_
 refine bo ?_
 exact oG r W0 (by omega)
end Go.Proofs.YtnobdioccfeokaaGreatDoor
namespace Go.Proofs.YtnobdioccfeokaaGreatDoor
open Go.RowKit
theorem kM (cs0:List Value) (r:Rnt) (W:World) (b0:Rp W (fun b=>b<W.heap.size) r.D cs0):Calls Tryz.prog 3 #[.agg cs0.toArray] W fun e w'=>e=.returned (.bool true)∧Ext W w':=
 HH (pL r) ⟨_,_,rfl,⟨cs0,rfl,b0⟩,rfl⟩
end Go.Proofs.YtnobdioccfeokaaGreatDoor
