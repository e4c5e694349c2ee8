/-
  Proved facts that the law leans on.
-/
import Derived.Test.YtclpbhoekmecjaaGreatDoorZU1
import Derived.Test.YtclpbhoekmecjaaGreatDoorZU13
import Derived.Test.YtclpbhoekmecjaaGreatDoorZU15
import Derived.Test.YtclpbhoekmecjaaGreatDoorZU17
namespace Go.Proofs.YtclpbhoekmecjaaGreatDoor
open Go.RowKit
set_option linter.unusedVariables false
set_option maxRecDepth 100000
set_option maxHeartbeats 16000000
attribute [local irreducible] aq Der At jI mkL cnL lC szR wtL bd
theorem pN (sig:List Ctl) (rs:List Rul) (a:Big) (most:Int) (W0:ma) (hS:wtL eB sig+wtL cQ rs+bG a≤1048576):aq Tryz.prog W0.toB Tryz.f6.ntmps (vr 25 (Tryz.f6.body.getD .skip)) [(0,.sy (.d (.l 3 (sig.map Ctl.D)))),(1,.sy (.d (.l 13 (rs.map Rul.D)))),(6,.sy (.bx 10006 0)),(10006,.tk (.bx [.d (.i a.roots),.d (.l 3 (a.nodes.map Nd.D)),.d (.l 1 (a.sites.map D.i)),.d (.i a.edges),.d (.l 1 (a.outer.map D.s)),.d (.l 2 (a.inner.map Wr.D))])),(3,.sy (.d (.i most))),(8,.sy (.d (.b false))),(10,.sy (.bx 10010 0)),(10010,.tk (.bx [.d (.l 1 ((bd sig rs a most).1.rules.map D.i)),.d (.l 2 ((bd sig rs a most).1.ms.map Mat.D))])),(11,.sy (.bx 10011 0)),(10011,.tk (.bx [.d (.i (bd sig rs a most).2.1.roots),.d (.l 3 ((bd sig rs a most).2.1.nodes.map Nd.D)),.d (.l 1 ((bd sig rs a most).2.1.sites.map D.i)),.d (.i (bd sig rs a most).2.1.edges),.d (.l 1 ((bd sig rs a most).2.1.outer.map D.s)),.d (.l 2 ((bd sig rs a most).2.1.inner.map Wr.D))])),(12,.sy (.d (.b (bd sig rs a most).2.2))),(16,.sy (.bx 10016 0)),(10016,.tk (.bx [.k 30063,.k 31063])),(30063,.tk (.own (.l 1 ((qY (1) (bd sig rs a most).1).rules.map D.i)) none none)),(31063,.tk (.own (.l 2 ((qY (1) (bd sig rs a most).1).ms.map Mat.D)) none none)),(17,.sy (.bx 10017 0)),(10017,.tk (.bx [.d (.i (jJ (1+(lN (bd sig rs a most).1:Nat)) (bd sig rs a most).2.1).roots),.k 33063,.k 34063,.d (.i (jJ (1+(lN (bd sig rs a most).1:Nat)) (bd sig rs a most).2.1).edges),.k 36063,.k 37063])),(33063,.tk (.own (.l 3 ((jJ (1+(lN (bd sig rs a most).1:Nat)) (bd sig rs a most).2.1).nodes.map Nd.D)) none none)),(34063,.tk (.own (.l 1 ((jJ (1+(lN (bd sig rs a most).1:Nat)) (bd sig rs a most).2.1).sites.map D.i)) none none)),(36063,.tk (.own (.l 1 ((jJ (1+(lN (bd sig rs a most).1:Nat)) (bd sig rs a most).2.1).outer.map D.s)) none none)),(37063,.tk (.own (.l 2 ((jJ (1+(lN (bd sig rs a most).1:Nat)) (bd sig rs a most).2.1).inner.map Wr.D)) none none)),(18,.sy (.d (.b (bd sig rs a most).2.2))),(20,.sy (.d (.i (1+(lN (bd sig rs a most).1:Nat)+(jo (bd sig rs a most).2.1:Nat)))))] (bodyPost Tryz.prog Tryz.f6 (post W0 (.d (.b true)))):=by
 have hb:=fl sig rs a hS
 have o0:=dK sig (by omega)
 have o1:=gz rs (by omega)
 have o2:=dm a (by omega)
 have hin:∀b:Big,bG b≤1048576→b.inner.length≤1048576:=fun b h=>by
  have e:bG b=wtL i6 b.nodes+b.sites.length+wtL fS b.outer+wtL jm b.inner:=rfl
  have:=eR jm b.inner
  omega
 have hrs:∀r∈rs,r.redex.inner.length≤1048576∧r.reactum.inner.length≤1048576:=fun r hr=>by
  have h1:=iV cQ rs r hr
  have e:cQ r=bG r.redex+bG r.reactum+r.copies.length:=rfl
  exact ⟨hin _ (by omega),hin _ (by omega)⟩
 have fi:=kE sig rs a most hrs (hin a (by omega))
 obtain ⟨hB,hB2⟩:=Iv sig rs a most
 refine kS ?_
 have h10:=pe (bd sig rs a most).1 (1) (by omega) (by omega)
 refine ee ?_
 refine kS ?_
 have h11:=mD (bd sig rs a most).2.1 (1+(lN (bd sig rs a most).1:Nat)) (by omega) (by omega)
 refine ee ?_
 refine kS ?_
 clear h10
 clear h11
 refine pj (zv (bd sig rs a most).1 (bd sig rs a most).2.1 (bd sig rs a most).2.2) ?_
 refine kS ?_
 clear o0 o1 o2
 have eB0:=oA (bd sig rs a most).1
 refine ee ?_
 refine kS ?_
 have eB1:=eD (bd sig rs a most).2.1
 refine ee ?_
 refine kS ?_
 have h10:=pe (bd sig rs a most).1 (1) (by omega) (by omega)
 refine ee ?_
 refine kS ?_
 have h11:=mD (bd sig rs a most).2.1 (1+(lN (bd sig rs a most).1:Nat)) (by omega) (by omega)
 refine ee ?_
 refine kS ?_
 exact ar
theorem pL (sig:List Ctl) (rs:List Rul) (a:Big) (most:Int) (W0:ma) (hS:wtL eB sig+wtL cQ rs+bG a≤1048576):aq Tryz.prog W0.toB Tryz.f6.ntmps (vr 21 (Tryz.f6.body.getD .skip)) [(0,.sy (.d (.l 3 (sig.map Ctl.D)))),(1,.sy (.d (.l 13 (rs.map Rul.D)))),(6,.sy (.bx 10006 0)),(10006,.tk (.bx [.d (.i a.roots),.d (.l 3 (a.nodes.map Nd.D)),.d (.l 1 (a.sites.map D.i)),.d (.i a.edges),.d (.l 1 (a.outer.map D.s)),.d (.l 2 (a.inner.map Wr.D))])),(3,.sy (.d (.i most))),(8,.sy (.d (.b false))),(10,.sy (.bx 10010 0)),(10010,.tk (.bx [.d (.l 1 ((bd sig rs a most).1.rules.map D.i)),.d (.l 2 ((bd sig rs a most).1.ms.map Mat.D))])),(11,.sy (.bx 10011 0)),(10011,.tk (.bx [.d (.i (bd sig rs a most).2.1.roots),.d (.l 3 ((bd sig rs a most).2.1.nodes.map Nd.D)),.d (.l 1 ((bd sig rs a most).2.1.sites.map D.i)),.d (.i (bd sig rs a most).2.1.edges),.d (.l 1 ((bd sig rs a most).2.1.outer.map D.s)),.d (.l 2 ((bd sig rs a most).2.1.inner.map Wr.D))])),(12,.sy (.d (.b (bd sig rs a most).2.2))),(16,.sy (.bx 10016 0)),(10016,.tk (.bx [.k 30063,.k 31063])),(30063,.tk (.own (.l 1 ((bd sig rs a most).1.rules.map D.i)) none none)),(31063,.tk (.own (.l 2 ((bd sig rs a most).1.ms.map Mat.D)) none none)),(17,.sy (.bx 10017 0)),(10017,.tk (.bx [.d (.i (bd sig rs a most).2.1.roots),.k 33063,.k 34063,.d (.i (bd sig rs a most).2.1.edges),.k 36063,.k 37063])),(33063,.tk (.own (.l 3 ((bd sig rs a most).2.1.nodes.map Nd.D)) none none)),(34063,.tk (.own (.l 1 ((bd sig rs a most).2.1.sites.map D.i)) none none)),(36063,.tk (.own (.l 1 ((bd sig rs a most).2.1.outer.map D.s)) none none)),(37063,.tk (.own (.l 2 ((bd sig rs a most).2.1.inner.map Wr.D)) none none)),(18,.sy (.d (.b (bd sig rs a most).2.2))),(19,.sy (.d (.i (1+(cnL c3 sig:Nat)+(cnL eQ rs:Nat)+(jo a:Nat)))))] (bodyPost Tryz.prog Tryz.f6 (post W0 (.d (.b true)))):=by
 have hb:=fl sig rs a hS
 have o0:=dK sig (by omega)
 have o1:=gz rs (by omega)
 have o2:=dm a (by omega)
 have hin:∀b:Big,bG b≤1048576→b.inner.length≤1048576:=fun b h=>by
  have e:bG b=wtL i6 b.nodes+b.sites.length+wtL fS b.outer+wtL jm b.inner:=rfl
  have:=eR jm b.inner
  omega
 have hrs:∀r∈rs,r.redex.inner.length≤1048576∧r.reactum.inner.length≤1048576:=fun r hr=>by
  have h1:=iV cQ rs r hr
  have e:cQ r=bG r.redex+bG r.reactum+r.copies.length:=rfl
  exact ⟨hin _ (by omega),hin _ (by omega)⟩
 have fi:=kE sig rs a most hrs (hin a (by omega))
 obtain ⟨hB,hB2⟩:=Iv sig rs a most
 refine kS ?_
 have eB0:=oA (bd sig rs a most).1
 refine ee ?_
 refine kS ?_
 have eB1:=eD (bd sig rs a most).2.1
 refine ee ?_
 refine kS ?_
 clear eB0 eB1
 have m10:=vu (bd sig rs a most).1 (1) (by omega) (by omega)
 refine lB ?_
 refine wI ?_
 refine dP (aM ?_)
 refine EE [(0,.sy (.d (.l 3 (sig.map Ctl.D)))),(1,.sy (.d (.l 13 (rs.map Rul.D)))),(6,.sy (.bx 10006 0)),(10006,.tk (.bx [.d (.i a.roots),.d (.l 3 (a.nodes.map Nd.D)),.d (.l 1 (a.sites.map D.i)),.d (.i a.edges),.d (.l 1 (a.outer.map D.s)),.d (.l 2 (a.inner.map Wr.D))])),(3,.sy (.d (.i most))),(8,.sy (.d (.b false))),(10,.sy (.bx 10010 0)),(10010,.tk (.bx [.d (.l 1 ((bd sig rs a most).1.rules.map D.i)),.d (.l 2 ((bd sig rs a most).1.ms.map Mat.D))])),(11,.sy (.bx 10011 0)),(10011,.tk (.bx [.d (.i (bd sig rs a most).2.1.roots),.d (.l 3 ((bd sig rs a most).2.1.nodes.map Nd.D)),.d (.l 1 ((bd sig rs a most).2.1.sites.map D.i)),.d (.i (bd sig rs a most).2.1.edges),.d (.l 1 ((bd sig rs a most).2.1.outer.map D.s)),.d (.l 2 ((bd sig rs a most).2.1.inner.map Wr.D))])),(12,.sy (.d (.b (bd sig rs a most).2.2))),(16,.sy (.bx 10016 0)),(10016,.tk (.bx [.k 30063,.k 31063])),(30063,.tk (.own (.l 1 ((qY (1) (bd sig rs a most).1).rules.map D.i)) none none)),(31063,.tk (.own (.l 2 ((qY (1) (bd sig rs a most).1).ms.map Mat.D)) none none)),(17,.sy (.bx 10017 0)),(10017,.tk (.bx [.d (.i (bd sig rs a most).2.1.roots),.k 33063,.k 34063,.d (.i (bd sig rs a most).2.1.edges),.k 36063,.k 37063])),(33063,.tk (.own (.l 3 ((bd sig rs a most).2.1.nodes.map Nd.D)) none none)),(34063,.tk (.own (.l 1 ((bd sig rs a most).2.1.sites.map D.i)) none none)),(36063,.tk (.own (.l 1 ((bd sig rs a most).2.1.outer.map D.s)) none none)),(37063,.tk (.own (.l 2 ((bd sig rs a most).2.1.inner.map Wr.D)) none none)),(18,.sy (.d (.b (bd sig rs a most).2.2))),(20,.sy (.d (.i (1+(lN (bd sig rs a most).1:Nat)))))] ?_
 clear m10
 refine kS ?_
 have m11:=ju (bd sig rs a most).2.1 (1+(lN (bd sig rs a most).1:Nat)) (by omega) (by omega)
 refine lB ?_
 refine wI ?_
 refine dP (aM ?_)
 refine EE [(0,.sy (.d (.l 3 (sig.map Ctl.D)))),(1,.sy (.d (.l 13 (rs.map Rul.D)))),(6,.sy (.bx 10006 0)),(10006,.tk (.bx [.d (.i a.roots),.d (.l 3 (a.nodes.map Nd.D)),.d (.l 1 (a.sites.map D.i)),.d (.i a.edges),.d (.l 1 (a.outer.map D.s)),.d (.l 2 (a.inner.map Wr.D))])),(3,.sy (.d (.i most))),(8,.sy (.d (.b false))),(10,.sy (.bx 10010 0)),(10010,.tk (.bx [.d (.l 1 ((bd sig rs a most).1.rules.map D.i)),.d (.l 2 ((bd sig rs a most).1.ms.map Mat.D))])),(11,.sy (.bx 10011 0)),(10011,.tk (.bx [.d (.i (bd sig rs a most).2.1.roots),.d (.l 3 ((bd sig rs a most).2.1.nodes.map Nd.D)),.d (.l 1 ((bd sig rs a most).2.1.sites.map D.i)),.d (.i (bd sig rs a most).2.1.edges),.d (.l 1 ((bd sig rs a most).2.1.outer.map D.s)),.d (.l 2 ((bd sig rs a most).2.1.inner.map Wr.D))])),(12,.sy (.d (.b (bd sig rs a most).2.2))),(16,.sy (.bx 10016 0)),(10016,.tk (.bx [.k 30063,.k 31063])),(30063,.tk (.own (.l 1 ((qY (1) (bd sig rs a most).1).rules.map D.i)) none none)),(31063,.tk (.own (.l 2 ((qY (1) (bd sig rs a most).1).ms.map Mat.D)) none none)),(17,.sy (.bx 10017 0)),(10017,.tk (.bx [.d (.i (jJ (1+(lN (bd sig rs a most).1:Nat)) (bd sig rs a most).2.1).roots),.k 33063,.k 34063,.d (.i (jJ (1+(lN (bd sig rs a most).1:Nat)) (bd sig rs a most).2.1).edges),.k 36063,.k 37063])),(33063,.tk (.own (.l 3 ((jJ (1+(lN (bd sig rs a most).1:Nat)) (bd sig rs a most).2.1).nodes.map Nd.D)) none none)),(34063,.tk (.own (.l 1 ((jJ (1+(lN (bd sig rs a most).1:Nat)) (bd sig rs a most).2.1).sites.map D.i)) none none)),(36063,.tk (.own (.l 1 ((jJ (1+(lN (bd sig rs a most).1:Nat)) (bd sig rs a most).2.1).outer.map D.s)) none none)),(37063,.tk (.own (.l 2 ((jJ (1+(lN (bd sig rs a most).1:Nat)) (bd sig rs a most).2.1).inner.map Wr.D)) none none)),(18,.sy (.d (.b (bd sig rs a most).2.2))),(20,.sy (.d (.i (1+(lN (bd sig rs a most).1:Nat)+(jo (bd sig rs a most).2.1:Nat)))))] ?_
 exact pN sig rs a most W0 hS
theorem pU (sig:List Ctl) (rs:List Rul) (a:Big) (most:Int) (W0:ma) (hS:wtL eB sig+wtL cQ rs+bG a≤1048576):aq Tryz.prog W0.toB Tryz.f6.ntmps (vr 14 (Tryz.f6.body.getD .skip)) [(0,.sy (.d (.l 3 (sig.map Ctl.D)))),(1,.sy (.d (.l 13 (rs.map Rul.D)))),(6,.sy (.bx 10006 0)),(10006,.tk (.bx [.d (.i a.roots),.d (.l 3 (a.nodes.map Nd.D)),.d (.l 1 (a.sites.map D.i)),.d (.i a.edges),.d (.l 1 (a.outer.map D.s)),.d (.l 2 (a.inner.map Wr.D))])),(3,.sy (.d (.i most))),(8,.sy (.d (.b false))),(10,.sy (.bx 10010 0)),(10010,.tk (.bx [.d (.l 1 ((bd sig rs a most).1.rules.map D.i)),.d (.l 2 ((bd sig rs a most).1.ms.map Mat.D))])),(11,.sy (.bx 10011 0)),(10011,.tk (.bx [.d (.i (bd sig rs a most).2.1.roots),.d (.l 3 ((bd sig rs a most).2.1.nodes.map Nd.D)),.d (.l 1 ((bd sig rs a most).2.1.sites.map D.i)),.d (.i (bd sig rs a most).2.1.edges),.d (.l 1 ((bd sig rs a most).2.1.outer.map D.s)),.d (.l 2 ((bd sig rs a most).2.1.inner.map Wr.D))])),(12,.sy (.d (.b (bd sig rs a most).2.2))),(13,.sy (.k 30053)),(30053,.tk (.own (.l 3 (sig.map Ctl.D)) none none)),(14,.sy (.k 30055)),(30055,.tk (.own (.l 13 (rs.map Rul.D)) none none)),(15,.sy (.bx 10015 0)),(10015,.tk (.bx [.d (.i a.roots),.k 31057,.k 32057,.d (.i a.edges),.k 34057,.k 35057])),(31057,.tk (.own (.l 3 (a.nodes.map Nd.D)) none none)),(32057,.tk (.own (.l 1 (a.sites.map D.i)) none none)),(34057,.tk (.own (.l 1 (a.outer.map D.s)) none none)),(35057,.tk (.own (.l 2 (a.inner.map Wr.D)) none none)),(16,.sy (.bx 10016 0)),(10016,.tk (.bx [.k 30063,.k 31063])),(30063,.tk (.own (.l 1 ((bd sig rs a most).1.rules.map D.i)) none none)),(31063,.tk (.own (.l 2 ((bd sig rs a most).1.ms.map Mat.D)) none none)),(17,.sy (.bx 10017 0)),(10017,.tk (.bx [.d (.i (bd sig rs a most).2.1.roots),.k 33063,.k 34063,.d (.i (bd sig rs a most).2.1.edges),.k 36063,.k 37063])),(33063,.tk (.own (.l 3 ((bd sig rs a most).2.1.nodes.map Nd.D)) none none)),(34063,.tk (.own (.l 1 ((bd sig rs a most).2.1.sites.map D.i)) none none)),(36063,.tk (.own (.l 1 ((bd sig rs a most).2.1.outer.map D.s)) none none)),(37063,.tk (.own (.l 2 ((bd sig rs a most).2.1.inner.map Wr.D)) none none)),(18,.sy (.d (.b (bd sig rs a most).2.2))),(81,.sy (.d (.b false)))] (bodyPost Tryz.prog Tryz.f6 (post W0 (.d (.b true)))):=by
 have hb:=fl sig rs a hS
 have o0:=dK sig (by omega)
 have o1:=gz rs (by omega)
 have o2:=dm a (by omega)
 have hin:∀b:Big,bG b≤1048576→b.inner.length≤1048576:=fun b h=>by
  have e:bG b=wtL i6 b.nodes+b.sites.length+wtL fS b.outer+wtL jm b.inner:=rfl
  have:=eR jm b.inner
  omega
 have hrs:∀r∈rs,r.redex.inner.length≤1048576∧r.reactum.inner.length≤1048576:=fun r hr=>by
  have h1:=iV cQ rs r hr
  have e:cQ r=bG r.redex+bG r.reactum+r.copies.length:=rfl
  exact ⟨hin _ (by omega),hin _ (by omega)⟩
 have fi:=kE sig rs a most hrs (hin a (by omega))
 obtain ⟨hB,hB2⟩:=Iv sig rs a most
 refine kS ?_
 have e0:=nF sig
 refine ee ?_
 refine kS ?_
 have e1:=sF rs
 refine ee ?_
 refine kS ?_
 have e2:=eD a
 refine ee ?_
 refine kS ?_
 have m0:=lu sig (1) (by omega) (by omega)
 refine iu ?_
 refine kS ?_
 have m1:=pt rs (1+(cnL c3 sig:Nat)) (by omega) (by omega)
 refine iu ?_
 refine kS ?_
 have m2:=ju a (1+(cnL c3 sig:Nat)+(cnL eQ rs:Nat)) (by omega) (by omega)
 refine lB ?_
 refine wI ?_
 refine dP (aM ?_)
 refine EE [(0,.sy (.d (.l 3 (sig.map Ctl.D)))),(1,.sy (.d (.l 13 (rs.map Rul.D)))),(6,.sy (.bx 10006 0)),(10006,.tk (.bx [.d (.i a.roots),.d (.l 3 (a.nodes.map Nd.D)),.d (.l 1 (a.sites.map D.i)),.d (.i a.edges),.d (.l 1 (a.outer.map D.s)),.d (.l 2 (a.inner.map Wr.D))])),(3,.sy (.d (.i most))),(8,.sy (.d (.b false))),(10,.sy (.bx 10010 0)),(10010,.tk (.bx [.d (.l 1 ((bd sig rs a most).1.rules.map D.i)),.d (.l 2 ((bd sig rs a most).1.ms.map Mat.D))])),(11,.sy (.bx 10011 0)),(10011,.tk (.bx [.d (.i (bd sig rs a most).2.1.roots),.d (.l 3 ((bd sig rs a most).2.1.nodes.map Nd.D)),.d (.l 1 ((bd sig rs a most).2.1.sites.map D.i)),.d (.i (bd sig rs a most).2.1.edges),.d (.l 1 ((bd sig rs a most).2.1.outer.map D.s)),.d (.l 2 ((bd sig rs a most).2.1.inner.map Wr.D))])),(12,.sy (.d (.b (bd sig rs a most).2.2))),(16,.sy (.bx 10016 0)),(10016,.tk (.bx [.k 30063,.k 31063])),(30063,.tk (.own (.l 1 ((bd sig rs a most).1.rules.map D.i)) none none)),(31063,.tk (.own (.l 2 ((bd sig rs a most).1.ms.map Mat.D)) none none)),(17,.sy (.bx 10017 0)),(10017,.tk (.bx [.d (.i (bd sig rs a most).2.1.roots),.k 33063,.k 34063,.d (.i (bd sig rs a most).2.1.edges),.k 36063,.k 37063])),(33063,.tk (.own (.l 3 ((bd sig rs a most).2.1.nodes.map Nd.D)) none none)),(34063,.tk (.own (.l 1 ((bd sig rs a most).2.1.sites.map D.i)) none none)),(36063,.tk (.own (.l 1 ((bd sig rs a most).2.1.outer.map D.s)) none none)),(37063,.tk (.own (.l 2 ((bd sig rs a most).2.1.inner.map Wr.D)) none none)),(18,.sy (.d (.b (bd sig rs a most).2.2))),(19,.sy (.d (.i (1+(cnL c3 sig:Nat)+(cnL eQ rs:Nat)+(jo a:Nat)))))] ?_
 exact pL sig rs a most W0 hS
theorem qB (sig:List Ctl) (rs:List Rul) (a:Big) (most:Int):FnD Tryz.prog 6 [.l 3 (sig.map Ctl.D),.l 13 (rs.map Rul.D),a.D,.i most] (.d (.b true)):=by
 refine ah Tryz.func6 (fun hw W0=>?_)
 have f0:=nI sig 1048576 (by omega) (by omega)
 by_cases s0:((wtL eB sig:Nat):Int)≤1048576
 rotate_left
 ·rw [szN s0] at f0
  refine kgo ?_
  exact ar
 rw [szP s0] at f0
 have f1:=tC rs (1048576 - (wtL eB sig:Nat)) (by omega) (by omega)
 refine kgo ?_
 refine aO (fun h=>?_) (fun _=>?_)
 ·omega
 by_cases s1:((wtL cQ rs:Nat):Int)≤1048576 - (wtL eB sig:Nat)
 rotate_left
 ·rw [szN s1] at f1
  refine kgo ?_
  exact ar
 rw [szP s1] at f1
 have f2:=jp a (1048576 - (wtL eB sig:Nat) - (wtL cQ rs:Nat)) (by omega) (by omega)
 refine kgo ?_
 refine aO (fun h=>?_) (fun _=>?_)
 ·omega
 by_cases s2:((bG a:Nat):Int)≤1048576 - (wtL eB sig:Nat) - (wtL cQ rs:Nat)
 rotate_left
 ·rw [szN s2] at f2
  refine kgo ?_
  exact ar
 rw [szP s2] at f2
 have hb:=fl sig rs a (by omega)
 have o0:=dK sig (by omega)
 have o1:=gz rs (by omega)
 have o2:=dm a (by omega)
 have hin:∀b:Big,bG b≤1048576→b.inner.length≤1048576:=fun b h=>by
  have e:bG b=wtL i6 b.nodes+b.sites.length+wtL fS b.outer+wtL jm b.inner:=rfl
  have:=eR jm b.inner
  omega
 have hrs:∀r∈rs,r.redex.inner.length≤1048576∧r.reactum.inner.length≤1048576:=fun r hr=>by
  have h1:=iV cQ rs r hr
  have e:cQ r=bG r.redex+bG r.reactum+r.copies.length:=rfl
  exact ⟨hin _ (by omega),hin _ (by omega)⟩
 have fi:=kE sig rs a most hrs (hin a (by omega))
 have g0:=o0.toR
 have g1:=o1.toR
 have g2:=FnO.toD (n:=5) o2
 clear f0 f1
 refine kgo ?_
 refine aO (fun h=>?_) (fun _=>?_)
 ·omega
 clear f2
 refine kgo ?_
 have fs:=pT sig rs a most hrs (hin a (by omega))
 refine aR ?_
 clear g0 g1 g2 fs
 refine kgo ?_
 refine pj (zv (bd sig rs a most).1 (bd sig rs a most).2.1 (bd sig rs a most).2.2) ?_
 refine kS ?_
 have eB0:=oA (bd sig rs a most).1
 refine ee ?_
 refine kS ?_
 have eB1:=eD (bd sig rs a most).2.1
 refine ee ?_
 refine wI ?_
 refine dP (aM ?_)
 refine EE [(0,.sy (.d (.l 3 (sig.map Ctl.D)))),(1,.sy (.d (.l 13 (rs.map Rul.D)))),(6,.sy (.bx 10006 0)),(10006,.tk (.bx [.d (.i a.roots),.d (.l 3 (a.nodes.map Nd.D)),.d (.l 1 (a.sites.map D.i)),.d (.i a.edges),.d (.l 1 (a.outer.map D.s)),.d (.l 2 (a.inner.map Wr.D))])),(3,.sy (.d (.i most))),(8,.sy (.d (.b false))),(10,.sy (.bx 10010 0)),(10010,.tk (.bx [.d (.l 1 ((bd sig rs a most).1.rules.map D.i)),.d (.l 2 ((bd sig rs a most).1.ms.map Mat.D))])),(11,.sy (.bx 10011 0)),(10011,.tk (.bx [.d (.i (bd sig rs a most).2.1.roots),.d (.l 3 ((bd sig rs a most).2.1.nodes.map Nd.D)),.d (.l 1 ((bd sig rs a most).2.1.sites.map D.i)),.d (.i (bd sig rs a most).2.1.edges),.d (.l 1 ((bd sig rs a most).2.1.outer.map D.s)),.d (.l 2 ((bd sig rs a most).2.1.inner.map Wr.D))])),(12,.sy (.d (.b (bd sig rs a most).2.2))),(13,.sy (.k 30053)),(30053,.tk (.own (.l 3 (sig.map Ctl.D)) none none)),(14,.sy (.k 30055)),(30055,.tk (.own (.l 13 (rs.map Rul.D)) none none)),(15,.sy (.bx 10015 0)),(10015,.tk (.bx [.d (.i a.roots),.k 31057,.k 32057,.d (.i a.edges),.k 34057,.k 35057])),(31057,.tk (.own (.l 3 (a.nodes.map Nd.D)) none none)),(32057,.tk (.own (.l 1 (a.sites.map D.i)) none none)),(34057,.tk (.own (.l 1 (a.outer.map D.s)) none none)),(35057,.tk (.own (.l 2 (a.inner.map Wr.D)) none none)),(16,.sy (.bx 10016 0)),(10016,.tk (.bx [.k 30063,.k 31063])),(30063,.tk (.own (.l 1 ((bd sig rs a most).1.rules.map D.i)) none none)),(31063,.tk (.own (.l 2 ((bd sig rs a most).1.ms.map Mat.D)) none none)),(17,.sy (.bx 10017 0)),(10017,.tk (.bx [.d (.i (bd sig rs a most).2.1.roots),.k 33063,.k 34063,.d (.i (bd sig rs a most).2.1.edges),.k 36063,.k 37063])),(33063,.tk (.own (.l 3 ((bd sig rs a most).2.1.nodes.map Nd.D)) none none)),(34063,.tk (.own (.l 1 ((bd sig rs a most).2.1.sites.map D.i)) none none)),(36063,.tk (.own (.l 1 ((bd sig rs a most).2.1.outer.map D.s)) none none)),(37063,.tk (.own (.l 2 ((bd sig rs a most).2.1.inner.map Wr.D)) none none)),(18,.sy (.d (.b (bd sig rs a most).2.2))),(81,.sy (.d (.b false)))] ?_
 refine fp ?_
 refine bU ?_
 refine aM ?_
 exact pU sig rs a most W0 (by omega)
end Go.Proofs.YtclpbhoekmecjaaGreatDoor
namespace Go.Proofs.YtclpbhoekmecjaaGreatDoor
open Go.RowKit
theorem lK (v0:Value) (sig:List Ctl) (v1:Value) (rs:List Rul) (cs2:List Value) (a:Big) (most:Int) (W:World) (b0:Rp W (fun b=>b<W.heap.size) (.l 3 (sig.map Ctl.D)) [v0]) (b1:Rp W (fun b=>b<W.heap.size) (.l 13 (rs.map Rul.D)) [v1]) (b2:Rp W (fun b=>b<W.heap.size) a.D cs2) (b3:I64 most):Calls Tryz.prog 6 #[v0,v1,.agg cs2.toArray,.int .i64 most] W fun e w'=>e=.returned (.bool true)∧Ext W w':=
 Ec (qB sig rs a most) ⟨v0,_,rfl,b0,v1,_,rfl,b1,_,_,rfl,⟨cs2,rfl,b2⟩,_,_,rfl,⟨rfl,b3⟩,rfl⟩
end Go.Proofs.YtclpbhoekmecjaaGreatDoor
namespace Go.Proofs.YtclpbhoekmecjaaGreatDoor.fnExactRunFirst
open Go.ChangeShapes Go.WideShapes Go.ChangeAt Go.RowKit Go.Joins
open Go.ChangeMaps (open_string shut_string)
set_option linter.unusedVariables false
set_option linter.unusedSimpArgs false
set_option maxRecDepth 100000 in
set_option maxHeartbeats 3200000 in
theorem contract (H:Type) (enc:TypeId × Value→H) (W:World) (base:Nat) (args:Array Value) (ds gs:List (DataW H)) (before:List MemPlace)
 (hval:∀(j:Nat) t v,Tryz.f6.params[j]? = some t→args[j]? = some v→Value.okWide Tryz.prog W .any base t v)
 (hW:DataW.Whole enc Tryz.prog Tryz.f6.params.toList Rows.fnExactRunFirstSpec.vars false W args.toList ds gs before)  :
 Calls Tryz.prog 6 args W fun e W'=>∃v,e=.returned v∧Rows.fnExactRunFirstSpec.post enc Tryz.prog Tryz.f6 false true false false W args v W':=by
 have hW':=hW
 obtain ⟨p,q,hA0,hV,rfl,hfz,hnd⟩:=hW
 have hA:DataW.TrodAll enc Tryz.prog W 0 (fun _=>true) true Tryz.f6.params.toList args.toList ds p:=hA0
 rw [Tryz.params6] at hA hval
 obtain ⟨v0,vs0,d0,ds0,p0,q0,hargs,rfl,rfl,h0,r0⟩:=trodAll_cons hA
 obtain ⟨v1,vs1,d1,ds1,p1,q1,rfl,rfl,rfl,h1,r1⟩:=trodAll_cons r0
 obtain ⟨v2,vs2,d2,ds2,p2,q2,rfl,rfl,rfl,h2,r2⟩:=trodAll_cons r1
 obtain ⟨v3,vs3,d3,ds3,p3,q3,rfl,rfl,rfl,h3,r3⟩:=trodAll_cons r2
 obtain ⟨rfl,rfl,rfl⟩:=trodAll_nil r3
 obtain rfl:args = #[v0,v1,v2,v3]:=by cases args;simp_all
 obtain ⟨rfl,rfl⟩:=trodVars_none hV
 have k0:=h0
 have lt0:∀x∈p0,x.block<W.heap.size:=by obtain ⟨m,hm⟩:=k0;exact DataW.trod_lt m _ _ _ hm
 have k1:=h1
 have lt1:∀x∈p1,x.block<W.heap.size:=by obtain ⟨m,hm⟩:=k1;exact DataW.trod_lt m _ _ _ hm
 have k2:=h2
 have lt2:∀x∈p2,x.block<W.heap.size:=by obtain ⟨m,hm⟩:=k2;exact DataW.trod_lt m _ _ _ hm
 have k3:=h3
 have lt3:∀x∈p3,x.block<W.heap.size:=by obtain ⟨m,hm⟩:=k3;exact DataW.trod_lt m _ _ _ hm
 obtain ⟨_,xx0,rfl,bb0⟩:=rX Tryz.underlying22 k8 (hval 0 22 v0 rfl rfl) h0
 obtain ⟨_,xx1,rfl,bb1⟩:=rX Tryz.underlying23 oY (hval 1 23 v1 rfl rfl) h1
 obtain ⟨cs2,xx2,rfl,bb2⟩:=DN Tryz.underlying29 gT (hval 2 29 v2 rfl rfl) h2
 obtain ⟨a3,rfl,rfl,rfl,wa3⟩:=open_int Tryz.underlying3 (hval 3 3 v3 rfl rfl) h3
 clear hA0
 refine (lK v0 xx0 v1 xx1 cs2 xx2 a3 W bb0 bb1 bb2 (bounds_i64 wa3)).mono fun e W' ⟨he,bel⟩=>?_
 subst he
 exact ⟨_,rfl,_,_,_,[],_,[],hW',trodAll_mk1 (shut_bool Tryz.underlying4 _),(trodAll_cons_mk (Below.trod lL (by kernel_rfl) (of_decide_eq_true (by kernel_rfl)) k0 bel lt0) (trodAll_cons_mk (Below.trod lL (by kernel_rfl) (of_decide_eq_true (by kernel_rfl)) k1 bel lt1) (trodAll_cons_mk (Below.trod lL (by kernel_rfl) (of_decide_eq_true (by kernel_rfl)) k2 bel lt2) (trodAll_cons_mk (Below.trod lL (by kernel_rfl) (of_decide_eq_true (by kernel_rfl)) k3 bel lt3) trodAll_mk0)))),rfl,Below.frame bel _,fun h=>by cases h⟩
set_option maxRecDepth 100000 in
theorem lifted (os:Os) (started:os.Started) (H:Type) (enc:TypeId × Value→H) (F:Stop.Interp) :
 ReturnsInHanded {} Tryz.checked os 6 .any ((OpenSpec.ofChange Rows.fnExactRunFirstSpec).preRow enc Tryz.prog Tryz.f6 Rows.fnExactRunFirstRow.domain false Rows.fnExactRunFirstRow.laid) (((OpenSpec.ofChange Rows.fnExactRunFirstSpec).at F).post enc Tryz.prog Tryz.f6 false true false false):=by
 have hx:DataW.whole enc Tryz.prog ((World.laidAll Tryz.prog os xx).forCall (fun _ _=>0) ⟨#[],#[.slice none 0 0,.slice none 0 0,.agg #[.int .i64 0,.slice none 0 0,.slice none 0 0,.int .i64 0,.slice none 0 0,.slice none 0 0],.int .i64 0],[]⟩).memory Tryz.f6.params.toList Rows.fnExactRunFirstSpec.vars false #[.slice none 0 0,.slice none 0 0,.agg #[.int .i64 0,.slice none 0 0,.slice none 0 0,.int .i64 0,.slice none 0 0,.slice none 0 0],.int .i64 0].toList 8=some ([.nil,.nil,.agg [.lit (.int .i64 0),.nil,.nil,.lit (.int .i64 0),.nil,.nil],.lit (.int .i64 0)],[],[]):=by kernel_rfl
 refine returnsInHanded_of_row (C:=Tryz.checked) (s:=OpenSpec.ofChange Rows.fnExactRunFirstSpec) own started (by kernel_rfl) Tryz.func6
  (witness_row_at (enc:=enc) (C:=Tryz.checked) false (World.laidAll Tryz.prog os xx) #[.slice none 0 0,.slice none 0 0,.agg #[.int .i64 0,.slice none 0 0,.slice none 0 0,.int .i64 0,.slice none 0 0,.slice none 0 0],.int .i64 0] (World.laidAll_os _ _ _) (by kernel_rfl) (by kernel_rfl) (by kernel_rfl)
    (OpenSpec.preRow_of_cond 8 hx (by kernel_rfl) (fun k hk=>by cases hk) (by kernel_rfl) (wq os _))) ?_
 intro W base args ds gs before hval hW _ _ _ hL hsh _
 exact contract H enc W base args ds gs before hval hW
set_option maxRecDepth 100000
theorem said:Rows.FnExactRunFirstSaid:=
 OpenClaim.holds_of_cond 6 Tryz.f6 rfl rfl rfl rfl rfl rfl rfl ⟨rfl,rfl,rfl,rfl,rfl⟩ rfl rfl rfl rfl rfl (by kernel_rfl) Tryz.func6 (an (an (an (an (an (an (an (an (an (an (an (an (an (an (an (an (an (an (an (an (an (an (an (an (an (an (an (an (an (an (an j0 j1) j2) j3) j4) j5) j6) j7) j8) j9) j10) j11) j12) j13) j14) j15) j16) j17) j18) j19) j20) j21) j22) j23) j24) j25) j26) j27) j28) j29) j30) j31)
  (of_decide_eq_true (by kernel_rfl)) (by unfold Func.isWrapper;first|(rw [if_pos (by decide +kernel)];kernel_rfl)|(rw [if_neg (by decide +kernel)];exact ⟨rfl,rfl⟩))
  (fun os started H enc _ F=>by rw [OpenClaim.pre_eq_preRow];exact lifted os started H enc F)
theorem plain (f:FuncId) (fn:Func) (hf:Tryz.pinned.checked.prog.funcNamed Rows.fnExactRunFirstRow.func=some f) (hfn:Tryz.pinned.checked.prog.funcs[f]? = some fn) :
 false=Tryz.pinned.checked.prog.looks []∧∀(j:Nat) t,fn.params[j]? = some t→Tryz.pinned.checked.prog.wantsStandIn t=false:=by
 obtain rfl:f=6:=Option.some.inj ((show Tryz.prog.funcNamed Rows.fnExactRunFirstRow.func=some 6 by kernel_rfl).symm.trans hf) |>.symm
 obtain rfl:fn=Tryz.f6:=(Option.some.inj (Tryz.func6.symm.trans hfn)).symm
 refine ⟨by kernel_rfl,fun j t ht=>?_⟩
 rw [Tryz.params6] at ht
 have hm:=Array.mem_of_getElem? ht
 simp only [List.mem_toArray,List.mem_cons,List.not_mem_nil,or_false] at hm
 rcases hm with rfl|rfl|rfl|rfl
 ·exact (show Tryz.prog.wantsStandIn 22=false by kernel_rfl)
 ·exact (show Tryz.prog.wantsStandIn 23=false by kernel_rfl)
 ·exact (show Tryz.prog.wantsStandIn 29=false by kernel_rfl)
 ·exact (show Tryz.prog.wantsStandIn 3=false by kernel_rfl)
theorem card:Rows.FnExactRunFirstCardSaid:=
 Claim7.holds_tied_plain_at .later [] _ _ _ _ said (fun _ h=>by cases h) (by kernel_rfl) (fun _ h=>by cases h) fnExactRunFirst_row_tie rfl ⟨rfl,rfl⟩ (by kernel_rfl) rfl plain (by kernel_rfl)
#print axioms card
end Go.Proofs.YtclpbhoekmecjaaGreatDoor.fnExactRunFirst
