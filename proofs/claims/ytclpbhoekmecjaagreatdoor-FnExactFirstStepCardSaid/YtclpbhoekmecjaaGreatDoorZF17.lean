/-
  Proved facts that the law leans on.
-/
import Derived.Test.YtclpbhoekmecjaaGreatDoorZF1
import Derived.Test.YtclpbhoekmecjaaGreatDoorZF12
import Derived.Test.YtclpbhoekmecjaaGreatDoorZF14
import Derived.Test.YtclpbhoekmecjaaGreatDoorZF16
namespace Go.Proofs.YtclpbhoekmecjaaGreatDoor
open Go.RowKit
set_option linter.unusedVariables false
set_option maxRecDepth 100000
set_option maxHeartbeats 16000000
attribute [local irreducible] au Der At jt mkL cnL mf szR wtL ai
theorem oO (sig:List Ctl) (rs:List Rul) (a:Big) (W0:oT) (hS:wtL fL sig+wtL dH rs+cT a≤1048576):au Tryz.prog W0.toB Tryz.f4.ntmps (Bw 24 (Tryz.f4.body.getD .skip)) [(0,.sy (.d (.l 3 (sig.map Ctl.D)))),(1,.sy (.d (.l 13 (rs.map Rul.D)))),(5,.sy (.bx 10005 0)),(10005,.tk (.bx [.d (.i a.roots),.d (.l 3 (a.nodes.map Nd.D)),.d (.l 1 (a.sites.map D.i)),.d (.i a.edges),.d (.l 1 (a.outer.map D.s)),.d (.l 2 (a.inner.map Wr.D))])),(6,.sy (.d (.b false))),(8,.sy (.bx 10008 0)),(10008,.tk (.bx [.d (.i (ai sig rs a).1.rule),.d (.l 1 ((ai sig rs a).1.mat.nodes.map D.i)),.d (.l 1 ((ai sig rs a).1.mat.roots.map D.i)),.d (.i (ai sig rs a).1.res.roots),.d (.l 3 ((ai sig rs a).1.res.nodes.map Nd.D)),.d (.l 1 ((ai sig rs a).1.res.sites.map D.i)),.d (.i (ai sig rs a).1.res.edges),.d (.l 1 ((ai sig rs a).1.res.outer.map D.s)),.d (.l 2 ((ai sig rs a).1.res.inner.map Wr.D))])),(9,.sy (.d (.b (ai sig rs a).2))),(13,.sy (.bx 10013 0)),(10013,.tk (.bx [.d (.i (eW (1) (ai sig rs a).1).rule),.k 31055,.k 32055,.d (.i (eW (1) (ai sig rs a).1).res.roots),.k 34055,.k 35055,.d (.i (eW (1) (ai sig rs a).1).res.edges),.k 37055,.k 38055])),(31055,.tk (.own (.l 1 ((eW (1) (ai sig rs a).1).mat.nodes.map D.i)) none none)),(32055,.tk (.own (.l 1 ((eW (1) (ai sig rs a).1).mat.roots.map D.i)) none none)),(34055,.tk (.own (.l 3 ((eW (1) (ai sig rs a).1).res.nodes.map Nd.D)) none none)),(35055,.tk (.own (.l 1 ((eW (1) (ai sig rs a).1).res.sites.map D.i)) none none)),(37055,.tk (.own (.l 1 ((eW (1) (ai sig rs a).1).res.outer.map D.s)) none none)),(38055,.tk (.own (.l 2 ((eW (1) (ai sig rs a).1).res.inner.map Wr.D)) none none)),(14,.sy (.d (.b (ai sig rs a).2))),(16,.sy (.d (.i (1+(th (ai sig rs a).1:Nat)))))] (bodyPost Tryz.prog Tryz.f4 (post W0 (.d (.b true)))):=by
 have hb:=kh sig rs a hS
 have o0:=ij sig (by omega)
 have o1:=lW rs (by omega)
 have o2:=fA a (by omega)
 have hin:∀b:Big,cT b≤1048576→b.inner.length≤1048576:=fun b h=>by
  have e:cT b=wtL jl b.nodes+b.sites.length+wtL gF b.outer+wtL kN b.inner:=rfl
  have:=gz kN b.inner
  omega
 have hrs:∀r∈rs,r.redex.inner.length≤1048576∧r.reactum.inner.length≤1048576:=fun r hr=>by
  have h1:=mK dH rs r hr
  have e:dH r=cT r.redex+cT r.reactum+r.copies.length:=rfl
  exact ⟨hin _ (by omega),hin _ (by omega)⟩
 have fi:=jj sig rs a hrs (hin a (by omega))
 have hB:=yL sig rs a
 refine vQ ?_
 have h10:=pV (ai sig rs a).1 (1) (by omega) (by omega)
 refine jA ?_
 refine vQ ?_
 clear h10
 refine Ap (AJ (ai sig rs a).1 (ai sig rs a).2) ?_
 refine vQ ?_
 clear o0 o1 o2
 have eB0:=oJ (ai sig rs a).1
 refine jA ?_
 refine vQ ?_
 have h10:=pV (ai sig rs a).1 (1) (by omega) (by omega)
 refine jA ?_
 refine vQ ?_
 exact aD
theorem oI (sig:List Ctl) (rs:List Rul) (a:Big) (W0:oT) (hS:wtL fL sig+wtL dH rs+cT a≤1048576):au Tryz.prog W0.toB Tryz.f4.ntmps (Bw 21 (Tryz.f4.body.getD .skip)) [(0,.sy (.d (.l 3 (sig.map Ctl.D)))),(1,.sy (.d (.l 13 (rs.map Rul.D)))),(5,.sy (.bx 10005 0)),(10005,.tk (.bx [.d (.i a.roots),.d (.l 3 (a.nodes.map Nd.D)),.d (.l 1 (a.sites.map D.i)),.d (.i a.edges),.d (.l 1 (a.outer.map D.s)),.d (.l 2 (a.inner.map Wr.D))])),(6,.sy (.d (.b false))),(8,.sy (.bx 10008 0)),(10008,.tk (.bx [.d (.i (ai sig rs a).1.rule),.d (.l 1 ((ai sig rs a).1.mat.nodes.map D.i)),.d (.l 1 ((ai sig rs a).1.mat.roots.map D.i)),.d (.i (ai sig rs a).1.res.roots),.d (.l 3 ((ai sig rs a).1.res.nodes.map Nd.D)),.d (.l 1 ((ai sig rs a).1.res.sites.map D.i)),.d (.i (ai sig rs a).1.res.edges),.d (.l 1 ((ai sig rs a).1.res.outer.map D.s)),.d (.l 2 ((ai sig rs a).1.res.inner.map Wr.D))])),(9,.sy (.d (.b (ai sig rs a).2))),(13,.sy (.bx 10013 0)),(10013,.tk (.bx [.d (.i (ai sig rs a).1.rule),.k 31055,.k 32055,.d (.i (ai sig rs a).1.res.roots),.k 34055,.k 35055,.d (.i (ai sig rs a).1.res.edges),.k 37055,.k 38055])),(31055,.tk (.own (.l 1 ((ai sig rs a).1.mat.nodes.map D.i)) none none)),(32055,.tk (.own (.l 1 ((ai sig rs a).1.mat.roots.map D.i)) none none)),(34055,.tk (.own (.l 3 ((ai sig rs a).1.res.nodes.map Nd.D)) none none)),(35055,.tk (.own (.l 1 ((ai sig rs a).1.res.sites.map D.i)) none none)),(37055,.tk (.own (.l 1 ((ai sig rs a).1.res.outer.map D.s)) none none)),(38055,.tk (.own (.l 2 ((ai sig rs a).1.res.inner.map Wr.D)) none none)),(14,.sy (.d (.b (ai sig rs a).2))),(15,.sy (.d (.i (1+(cnL c3 sig:Nat)+(cnL fc rs:Nat)+(jJ a:Nat)))))] (bodyPost Tryz.prog Tryz.f4 (post W0 (.d (.b true)))):=by
 have hb:=kh sig rs a hS
 have o0:=ij sig (by omega)
 have o1:=lW rs (by omega)
 have o2:=fA a (by omega)
 have hin:∀b:Big,cT b≤1048576→b.inner.length≤1048576:=fun b h=>by
  have e:cT b=wtL jl b.nodes+b.sites.length+wtL gF b.outer+wtL kN b.inner:=rfl
  have:=gz kN b.inner
  omega
 have hrs:∀r∈rs,r.redex.inner.length≤1048576∧r.reactum.inner.length≤1048576:=fun r hr=>by
  have h1:=mK dH rs r hr
  have e:dH r=cT r.redex+cT r.reactum+r.copies.length:=rfl
  exact ⟨hin _ (by omega),hin _ (by omega)⟩
 have fi:=jj sig rs a hrs (hin a (by omega))
 have hB:=yL sig rs a
 refine vQ ?_
 have eB0:=oJ (ai sig rs a).1
 refine jA ?_
 refine vQ ?_
 clear eB0
 have m10:=xW (ai sig rs a).1 (1) (by omega) (by omega)
 refine kT ?_
 refine DW ?_
 refine eD (bu ?_)
 refine G2 [(0,.sy (.d (.l 3 (sig.map Ctl.D)))),(1,.sy (.d (.l 13 (rs.map Rul.D)))),(5,.sy (.bx 10005 0)),(10005,.tk (.bx [.d (.i a.roots),.d (.l 3 (a.nodes.map Nd.D)),.d (.l 1 (a.sites.map D.i)),.d (.i a.edges),.d (.l 1 (a.outer.map D.s)),.d (.l 2 (a.inner.map Wr.D))])),(6,.sy (.d (.b false))),(8,.sy (.bx 10008 0)),(10008,.tk (.bx [.d (.i (ai sig rs a).1.rule),.d (.l 1 ((ai sig rs a).1.mat.nodes.map D.i)),.d (.l 1 ((ai sig rs a).1.mat.roots.map D.i)),.d (.i (ai sig rs a).1.res.roots),.d (.l 3 ((ai sig rs a).1.res.nodes.map Nd.D)),.d (.l 1 ((ai sig rs a).1.res.sites.map D.i)),.d (.i (ai sig rs a).1.res.edges),.d (.l 1 ((ai sig rs a).1.res.outer.map D.s)),.d (.l 2 ((ai sig rs a).1.res.inner.map Wr.D))])),(9,.sy (.d (.b (ai sig rs a).2))),(13,.sy (.bx 10013 0)),(10013,.tk (.bx [.d (.i (eW (1) (ai sig rs a).1).rule),.k 31055,.k 32055,.d (.i (eW (1) (ai sig rs a).1).res.roots),.k 34055,.k 35055,.d (.i (eW (1) (ai sig rs a).1).res.edges),.k 37055,.k 38055])),(31055,.tk (.own (.l 1 ((eW (1) (ai sig rs a).1).mat.nodes.map D.i)) none none)),(32055,.tk (.own (.l 1 ((eW (1) (ai sig rs a).1).mat.roots.map D.i)) none none)),(34055,.tk (.own (.l 3 ((eW (1) (ai sig rs a).1).res.nodes.map Nd.D)) none none)),(35055,.tk (.own (.l 1 ((eW (1) (ai sig rs a).1).res.sites.map D.i)) none none)),(37055,.tk (.own (.l 1 ((eW (1) (ai sig rs a).1).res.outer.map D.s)) none none)),(38055,.tk (.own (.l 2 ((eW (1) (ai sig rs a).1).res.inner.map Wr.D)) none none)),(14,.sy (.d (.b (ai sig rs a).2))),(16,.sy (.d (.i (1+(th (ai sig rs a).1:Nat)))))] ?_
 exact oO sig rs a W0 hS
theorem oN (sig:List Ctl) (rs:List Rul) (a:Big) (W0:oT) (hS:wtL fL sig+wtL dH rs+cT a≤1048576):au Tryz.prog W0.toB Tryz.f4.ntmps (Bw 14 (Tryz.f4.body.getD .skip)) [(0,.sy (.d (.l 3 (sig.map Ctl.D)))),(1,.sy (.d (.l 13 (rs.map Rul.D)))),(5,.sy (.bx 10005 0)),(10005,.tk (.bx [.d (.i a.roots),.d (.l 3 (a.nodes.map Nd.D)),.d (.l 1 (a.sites.map D.i)),.d (.i a.edges),.d (.l 1 (a.outer.map D.s)),.d (.l 2 (a.inner.map Wr.D))])),(6,.sy (.d (.b false))),(8,.sy (.bx 10008 0)),(10008,.tk (.bx [.d (.i (ai sig rs a).1.rule),.d (.l 1 ((ai sig rs a).1.mat.nodes.map D.i)),.d (.l 1 ((ai sig rs a).1.mat.roots.map D.i)),.d (.i (ai sig rs a).1.res.roots),.d (.l 3 ((ai sig rs a).1.res.nodes.map Nd.D)),.d (.l 1 ((ai sig rs a).1.res.sites.map D.i)),.d (.i (ai sig rs a).1.res.edges),.d (.l 1 ((ai sig rs a).1.res.outer.map D.s)),.d (.l 2 ((ai sig rs a).1.res.inner.map Wr.D))])),(9,.sy (.d (.b (ai sig rs a).2))),(10,.sy (.k 30046)),(30046,.tk (.own (.l 3 (sig.map Ctl.D)) none none)),(11,.sy (.k 30048)),(30048,.tk (.own (.l 13 (rs.map Rul.D)) none none)),(12,.sy (.bx 10012 0)),(10012,.tk (.bx [.d (.i a.roots),.k 31050,.k 32050,.d (.i a.edges),.k 34050,.k 35050])),(31050,.tk (.own (.l 3 (a.nodes.map Nd.D)) none none)),(32050,.tk (.own (.l 1 (a.sites.map D.i)) none none)),(34050,.tk (.own (.l 1 (a.outer.map D.s)) none none)),(35050,.tk (.own (.l 2 (a.inner.map Wr.D)) none none)),(13,.sy (.bx 10013 0)),(10013,.tk (.bx [.d (.i (ai sig rs a).1.rule),.k 31055,.k 32055,.d (.i (ai sig rs a).1.res.roots),.k 34055,.k 35055,.d (.i (ai sig rs a).1.res.edges),.k 37055,.k 38055])),(31055,.tk (.own (.l 1 ((ai sig rs a).1.mat.nodes.map D.i)) none none)),(32055,.tk (.own (.l 1 ((ai sig rs a).1.mat.roots.map D.i)) none none)),(34055,.tk (.own (.l 3 ((ai sig rs a).1.res.nodes.map Nd.D)) none none)),(35055,.tk (.own (.l 1 ((ai sig rs a).1.res.sites.map D.i)) none none)),(37055,.tk (.own (.l 1 ((ai sig rs a).1.res.outer.map D.s)) none none)),(38055,.tk (.own (.l 2 ((ai sig rs a).1.res.inner.map Wr.D)) none none)),(14,.sy (.d (.b (ai sig rs a).2))),(66,.sy (.d (.b false)))] (bodyPost Tryz.prog Tryz.f4 (post W0 (.d (.b true)))):=by
 have hb:=kh sig rs a hS
 have o0:=ij sig (by omega)
 have o1:=lW rs (by omega)
 have o2:=fA a (by omega)
 have hin:∀b:Big,cT b≤1048576→b.inner.length≤1048576:=fun b h=>by
  have e:cT b=wtL jl b.nodes+b.sites.length+wtL gF b.outer+wtL kN b.inner:=rfl
  have:=gz kN b.inner
  omega
 have hrs:∀r∈rs,r.redex.inner.length≤1048576∧r.reactum.inner.length≤1048576:=fun r hr=>by
  have h1:=mK dH rs r hr
  have e:dH r=cT r.redex+cT r.reactum+r.copies.length:=rfl
  exact ⟨hin _ (by omega),hin _ (by omega)⟩
 have fi:=jj sig rs a hrs (hin a (by omega))
 have hB:=yL sig rs a
 refine vQ ?_
 have e0:=sC sig
 refine jA ?_
 refine vQ ?_
 have e1:=AT rs
 refine jA ?_
 refine vQ ?_
 have e2:=iX a
 refine jA ?_
 refine vQ ?_
 have m0:=pb sig (1) (by omega) (by omega)
 refine jB ?_
 refine vQ ?_
 have m1:=tN rs (1+(cnL c3 sig:Nat)) (by omega) (by omega)
 refine jB ?_
 refine vQ ?_
 have m2:=lE a (1+(cnL c3 sig:Nat)+(cnL fc rs:Nat)) (by omega) (by omega)
 refine kT ?_
 refine DW ?_
 refine eD (bu ?_)
 refine G2 [(0,.sy (.d (.l 3 (sig.map Ctl.D)))),(1,.sy (.d (.l 13 (rs.map Rul.D)))),(5,.sy (.bx 10005 0)),(10005,.tk (.bx [.d (.i a.roots),.d (.l 3 (a.nodes.map Nd.D)),.d (.l 1 (a.sites.map D.i)),.d (.i a.edges),.d (.l 1 (a.outer.map D.s)),.d (.l 2 (a.inner.map Wr.D))])),(6,.sy (.d (.b false))),(8,.sy (.bx 10008 0)),(10008,.tk (.bx [.d (.i (ai sig rs a).1.rule),.d (.l 1 ((ai sig rs a).1.mat.nodes.map D.i)),.d (.l 1 ((ai sig rs a).1.mat.roots.map D.i)),.d (.i (ai sig rs a).1.res.roots),.d (.l 3 ((ai sig rs a).1.res.nodes.map Nd.D)),.d (.l 1 ((ai sig rs a).1.res.sites.map D.i)),.d (.i (ai sig rs a).1.res.edges),.d (.l 1 ((ai sig rs a).1.res.outer.map D.s)),.d (.l 2 ((ai sig rs a).1.res.inner.map Wr.D))])),(9,.sy (.d (.b (ai sig rs a).2))),(13,.sy (.bx 10013 0)),(10013,.tk (.bx [.d (.i (ai sig rs a).1.rule),.k 31055,.k 32055,.d (.i (ai sig rs a).1.res.roots),.k 34055,.k 35055,.d (.i (ai sig rs a).1.res.edges),.k 37055,.k 38055])),(31055,.tk (.own (.l 1 ((ai sig rs a).1.mat.nodes.map D.i)) none none)),(32055,.tk (.own (.l 1 ((ai sig rs a).1.mat.roots.map D.i)) none none)),(34055,.tk (.own (.l 3 ((ai sig rs a).1.res.nodes.map Nd.D)) none none)),(35055,.tk (.own (.l 1 ((ai sig rs a).1.res.sites.map D.i)) none none)),(37055,.tk (.own (.l 1 ((ai sig rs a).1.res.outer.map D.s)) none none)),(38055,.tk (.own (.l 2 ((ai sig rs a).1.res.inner.map Wr.D)) none none)),(14,.sy (.d (.b (ai sig rs a).2))),(15,.sy (.d (.i (1+(cnL c3 sig:Nat)+(cnL fc rs:Nat)+(jJ a:Nat)))))] ?_
 exact oI sig rs a W0 hS
theorem pg (sig:List Ctl) (rs:List Rul) (a:Big):FnD Tryz.prog 4 [.l 3 (sig.map Ctl.D),.l 13 (rs.map Rul.D),a.D] (.d (.b true)):=by
 refine ah Tryz.func4 (fun hw W0=>?_)
 have f0:=sj sig 1048576 (by omega) (by omega)
 by_cases s0:((wtL fL sig:Nat):Int)≤1048576
 rotate_left
 ·rw [szN s0] at f0
  refine kgo ?_
  exact aD
 rw [szP s0] at f0
 have f1:=y6 rs (1048576 - (wtL fL sig:Nat)) (by omega) (by omega)
 refine kgo ?_
 refine bt (fun h=>?_) (fun _=>?_)
 ·omega
 by_cases s1:((wtL dH rs:Nat):Int)≤1048576 - (wtL fL sig:Nat)
 rotate_left
 ·rw [szN s1] at f1
  refine kgo ?_
  exact aD
 rw [szP s1] at f1
 have f2:=li a (1048576 - (wtL fL sig:Nat) - (wtL dH rs:Nat)) (by omega) (by omega)
 refine kgo ?_
 refine bt (fun h=>?_) (fun _=>?_)
 ·omega
 by_cases s2:((cT a:Nat):Int)≤1048576 - (wtL fL sig:Nat) - (wtL dH rs:Nat)
 rotate_left
 ·rw [szN s2] at f2
  refine kgo ?_
  exact aD
 rw [szP s2] at f2
 have hb:=kh sig rs a (by omega)
 have o0:=ij sig (by omega)
 have o1:=lW rs (by omega)
 have o2:=fA a (by omega)
 have hin:∀b:Big,cT b≤1048576→b.inner.length≤1048576:=fun b h=>by
  have e:cT b=wtL jl b.nodes+b.sites.length+wtL gF b.outer+wtL kN b.inner:=rfl
  have:=gz kN b.inner
  omega
 have hrs:∀r∈rs,r.redex.inner.length≤1048576∧r.reactum.inner.length≤1048576:=fun r hr=>by
  have h1:=mK dH rs r hr
  have e:dH r=cT r.redex+cT r.reactum+r.copies.length:=rfl
  exact ⟨hin _ (by omega),hin _ (by omega)⟩
 have fi:=jj sig rs a hrs (hin a (by omega))
 have g0:=o0.toR
 have g1:=o1.toR
 have g2:=FnO.toD (n:=5) o2
 clear f0 f1
 refine kgo ?_
 refine bt (fun h=>?_) (fun _=>?_)
 ·omega
 clear f2
 refine kgo ?_
 have fs:=nO sig rs a hrs (hin a (by omega))
 refine aT ?_
 clear g0 g1 g2 fs
 refine kgo ?_
 refine Ap (AJ (ai sig rs a).1 (ai sig rs a).2) ?_
 refine vQ ?_
 have eB0:=oJ (ai sig rs a).1
 refine jA ?_
 refine DW ?_
 refine eD (bu ?_)
 refine G2 [(0,.sy (.d (.l 3 (sig.map Ctl.D)))),(1,.sy (.d (.l 13 (rs.map Rul.D)))),(5,.sy (.bx 10005 0)),(10005,.tk (.bx [.d (.i a.roots),.d (.l 3 (a.nodes.map Nd.D)),.d (.l 1 (a.sites.map D.i)),.d (.i a.edges),.d (.l 1 (a.outer.map D.s)),.d (.l 2 (a.inner.map Wr.D))])),(6,.sy (.d (.b false))),(8,.sy (.bx 10008 0)),(10008,.tk (.bx [.d (.i (ai sig rs a).1.rule),.d (.l 1 ((ai sig rs a).1.mat.nodes.map D.i)),.d (.l 1 ((ai sig rs a).1.mat.roots.map D.i)),.d (.i (ai sig rs a).1.res.roots),.d (.l 3 ((ai sig rs a).1.res.nodes.map Nd.D)),.d (.l 1 ((ai sig rs a).1.res.sites.map D.i)),.d (.i (ai sig rs a).1.res.edges),.d (.l 1 ((ai sig rs a).1.res.outer.map D.s)),.d (.l 2 ((ai sig rs a).1.res.inner.map Wr.D))])),(9,.sy (.d (.b (ai sig rs a).2))),(10,.sy (.k 30046)),(30046,.tk (.own (.l 3 (sig.map Ctl.D)) none none)),(11,.sy (.k 30048)),(30048,.tk (.own (.l 13 (rs.map Rul.D)) none none)),(12,.sy (.bx 10012 0)),(10012,.tk (.bx [.d (.i a.roots),.k 31050,.k 32050,.d (.i a.edges),.k 34050,.k 35050])),(31050,.tk (.own (.l 3 (a.nodes.map Nd.D)) none none)),(32050,.tk (.own (.l 1 (a.sites.map D.i)) none none)),(34050,.tk (.own (.l 1 (a.outer.map D.s)) none none)),(35050,.tk (.own (.l 2 (a.inner.map Wr.D)) none none)),(13,.sy (.bx 10013 0)),(10013,.tk (.bx [.d (.i (ai sig rs a).1.rule),.k 31055,.k 32055,.d (.i (ai sig rs a).1.res.roots),.k 34055,.k 35055,.d (.i (ai sig rs a).1.res.edges),.k 37055,.k 38055])),(31055,.tk (.own (.l 1 ((ai sig rs a).1.mat.nodes.map D.i)) none none)),(32055,.tk (.own (.l 1 ((ai sig rs a).1.mat.roots.map D.i)) none none)),(34055,.tk (.own (.l 3 ((ai sig rs a).1.res.nodes.map Nd.D)) none none)),(35055,.tk (.own (.l 1 ((ai sig rs a).1.res.sites.map D.i)) none none)),(37055,.tk (.own (.l 1 ((ai sig rs a).1.res.outer.map D.s)) none none)),(38055,.tk (.own (.l 2 ((ai sig rs a).1.res.inner.map Wr.D)) none none)),(14,.sy (.d (.b (ai sig rs a).2))),(66,.sy (.d (.b false)))] ?_
 refine fU ?_
 refine cI ?_
 refine bu ?_
 exact oN sig rs a W0 (by omega)
end Go.Proofs.YtclpbhoekmecjaaGreatDoor
namespace Go.Proofs.YtclpbhoekmecjaaGreatDoor
open Go.RowKit
theorem kD (v0:Value) (sig:List Ctl) (v1:Value) (rs:List Rul) (cs2:List Value) (a:Big) (W:World) (b0:Rp W (fun b=>b<W.heap.size) (.l 3 (sig.map Ctl.D)) [v0]) (b1:Rp W (fun b=>b<W.heap.size) (.l 13 (rs.map Rul.D)) [v1]) (b2:Rp W (fun b=>b<W.heap.size) a.D cs2):Calls Tryz.prog 4 #[v0,v1,.agg cs2.toArray] W fun e w'=>e=.returned (.bool true)∧Ext W w':=
 FN (pg sig rs a) ⟨v0,_,rfl,b0,v1,_,rfl,b1,_,_,rfl,⟨cs2,rfl,b2⟩,rfl⟩
end Go.Proofs.YtclpbhoekmecjaaGreatDoor
namespace Go.Proofs.YtclpbhoekmecjaaGreatDoor.fnExactFirstStep
open Go.ChangeShapes Go.WideShapes Go.ChangeAt Go.RowKit Go.Joins
open Go.ChangeMaps (open_string shut_string)
set_option linter.unusedVariables false
set_option linter.unusedSimpArgs false
set_option maxRecDepth 100000 in
set_option maxHeartbeats 3200000 in
theorem contract (H:Type) (enc:TypeId × Value→H) (W:World) (base:Nat) (args:Array Value) (ds gs:List (DataW H)) (before:List MemPlace)
 (hval:∀(j:Nat) t v,Tryz.f4.params[j]? = some t→args[j]? = some v→Value.okWide Tryz.prog W .any base t v)
 (hW:DataW.Whole enc Tryz.prog Tryz.f4.params.toList Rows.fnExactFirstStepSpec.vars false W args.toList ds gs before)  :
 Calls Tryz.prog 4 args W fun e W'=>∃v,e=.returned v∧Rows.fnExactFirstStepSpec.post enc Tryz.prog Tryz.f4 false true false false W args v W':=by
 have hW':=hW
 obtain ⟨p,q,hA0,hV,rfl,hfz,hnd⟩:=hW
 have hA:DataW.TrodAll enc Tryz.prog W 0 (fun _=>true) true Tryz.f4.params.toList args.toList ds p:=hA0
 rw [Tryz.params4] at hA hval
 obtain ⟨v0,vs0,d0,ds0,p0,q0,hargs,rfl,rfl,h0,r0⟩:=trodAll_cons hA
 obtain ⟨v1,vs1,d1,ds1,p1,q1,rfl,rfl,rfl,h1,r1⟩:=trodAll_cons r0
 obtain ⟨v2,vs2,d2,ds2,p2,q2,rfl,rfl,rfl,h2,r2⟩:=trodAll_cons r1
 obtain ⟨rfl,rfl,rfl⟩:=trodAll_nil r2
 obtain rfl:args = #[v0,v1,v2]:=by cases args;simp_all
 obtain ⟨rfl,rfl⟩:=trodVars_none hV
 have k0:=h0
 have lt0:∀x∈p0,x.block<W.heap.size:=by obtain ⟨m,hm⟩:=k0;exact DataW.trod_lt m _ _ _ hm
 have k1:=h1
 have lt1:∀x∈p1,x.block<W.heap.size:=by obtain ⟨m,hm⟩:=k1;exact DataW.trod_lt m _ _ _ hm
 have k2:=h2
 have lt2:∀x∈p2,x.block<W.heap.size:=by obtain ⟨m,hm⟩:=k2;exact DataW.trod_lt m _ _ _ hm
 obtain ⟨_,xx0,rfl,bb0⟩:=yE Tryz.underlying22 pm (hval 0 22 v0 rfl rfl) h0
 obtain ⟨_,xx1,rfl,bb1⟩:=yE Tryz.underlying23 ui (hval 1 23 v1 rfl rfl) h1
 obtain ⟨cs2,xx2,rfl,bb2⟩:=GB Tryz.underlying29 jg (hval 2 29 v2 rfl rfl) h2
 clear hA0
 refine (kD v0 xx0 v1 xx1 cs2 xx2 W bb0 bb1 bb2).mono fun e W' ⟨he,bel⟩=>?_
 subst he
 exact ⟨_,rfl,_,_,_,[],_,[],hW',trodAll_mk1 (shut_bool Tryz.underlying4 _),(trodAll_cons_mk (Below.trod uH (by kernel_rfl) (of_decide_eq_true (by kernel_rfl)) k0 bel lt0) (trodAll_cons_mk (Below.trod uH (by kernel_rfl) (of_decide_eq_true (by kernel_rfl)) k1 bel lt1) (trodAll_cons_mk (Below.trod uH (by kernel_rfl) (of_decide_eq_true (by kernel_rfl)) k2 bel lt2) trodAll_mk0))),rfl,Below.frame bel _,fun h=>by cases h⟩
set_option maxRecDepth 100000 in
theorem lifted (os:Os) (started:os.Started) (H:Type) (enc:TypeId × Value→H) (F:Stop.Interp) :
 ReturnsInHanded {} Tryz.checked os 4 .any ((OpenSpec.ofChange Rows.fnExactFirstStepSpec).preRow enc Tryz.prog Tryz.f4 Rows.fnExactFirstStepRow.domain false Rows.fnExactFirstStepRow.laid) (((OpenSpec.ofChange Rows.fnExactFirstStepSpec).at F).post enc Tryz.prog Tryz.f4 false true false false):=by
 have hx:DataW.whole enc Tryz.prog ((World.laidAll Tryz.prog os B6).forCall (fun _ _=>0) ⟨#[],#[.slice none 0 0,.slice none 0 0,.agg #[.int .i64 0,.slice none 0 0,.slice none 0 0,.int .i64 0,.slice none 0 0,.slice none 0 0]],[]⟩).memory Tryz.f4.params.toList Rows.fnExactFirstStepSpec.vars false #[.slice none 0 0,.slice none 0 0,.agg #[.int .i64 0,.slice none 0 0,.slice none 0 0,.int .i64 0,.slice none 0 0,.slice none 0 0]].toList 8=some ([.nil,.nil,.agg [.lit (.int .i64 0),.nil,.nil,.lit (.int .i64 0),.nil,.nil]],[],[]):=by kernel_rfl
 refine returnsInHanded_of_row (C:=Tryz.checked) (s:=OpenSpec.ofChange Rows.fnExactFirstStepSpec) own started (by kernel_rfl) Tryz.func4
  (witness_row_at (enc:=enc) (C:=Tryz.checked) false (World.laidAll Tryz.prog os B6) #[.slice none 0 0,.slice none 0 0,.agg #[.int .i64 0,.slice none 0 0,.slice none 0 0,.int .i64 0,.slice none 0 0,.slice none 0 0]] (World.laidAll_os _ _ _) (by kernel_rfl) (by kernel_rfl) (by kernel_rfl)
    (OpenSpec.preRow_of_cond 8 hx (by kernel_rfl) (fun k hk=>by cases hk) (by kernel_rfl) (B1 os _))) ?_
 intro W base args ds gs before hval hW _ _ _ hL hsh _
 exact contract H enc W base args ds gs before hval hW
set_option maxRecDepth 100000
theorem said:Rows.FnExactFirstStepSaid:=
 OpenClaim.holds_of_cond 4 Tryz.f4 rfl rfl rfl rfl rfl rfl rfl ⟨rfl,rfl,rfl,rfl,rfl⟩ rfl rfl rfl rfl rfl (by kernel_rfl) Tryz.func4 (an (an (an (an (an (an (an (an (an (an (an (an (an (an (an (an (an (an (an (an (an (an (an (an (an (an (an (an (an (an (an j0 j1) j2) j3) j4) j5) j6) j7) j8) j9) j10) j11) j12) j13) j14) j15) j16) j17) j18) j19) j20) j21) j22) j23) j24) j25) j26) j27) j28) j29) j30) j31)
  (of_decide_eq_true (by kernel_rfl)) (by unfold Func.isWrapper;first|(rw [if_pos (by decide +kernel)];kernel_rfl)|(rw [if_neg (by decide +kernel)];exact ⟨rfl,rfl⟩))
  (fun os started H enc _ F=>by rw [OpenClaim.pre_eq_preRow];exact lifted os started H enc F)
theorem plain (f:FuncId) (fn:Func) (hf:Tryz.pinned.checked.prog.funcNamed Rows.fnExactFirstStepRow.func=some f) (hfn:Tryz.pinned.checked.prog.funcs[f]? = some fn) :
 false=Tryz.pinned.checked.prog.looks []∧∀(j:Nat) t,fn.params[j]? = some t→Tryz.pinned.checked.prog.wantsStandIn t=false:=by
 obtain rfl:f=4:=Option.some.inj ((show Tryz.prog.funcNamed Rows.fnExactFirstStepRow.func=some 4 by kernel_rfl).symm.trans hf) |>.symm
 obtain rfl:fn=Tryz.f4:=(Option.some.inj (Tryz.func4.symm.trans hfn)).symm
 refine ⟨by kernel_rfl,fun j t ht=>?_⟩
 rw [Tryz.params4] at ht
 have hm:=Array.mem_of_getElem? ht
 simp only [List.mem_toArray,List.mem_cons,List.not_mem_nil,or_false] at hm
 rcases hm with rfl|rfl|rfl
 ·exact (show Tryz.prog.wantsStandIn 22=false by kernel_rfl)
 ·exact (show Tryz.prog.wantsStandIn 23=false by kernel_rfl)
 ·exact (show Tryz.prog.wantsStandIn 29=false by kernel_rfl)
theorem card:Rows.FnExactFirstStepCardSaid:=
 Claim7.holds_tied_plain_at .later [] _ _ _ _ said (fun _ h=>by cases h) (by kernel_rfl) (fun _ h=>by cases h) fnExactFirstStep_row_tie rfl ⟨rfl,rfl⟩ (by kernel_rfl) rfl plain (by kernel_rfl)
#print axioms card
end Go.Proofs.YtclpbhoekmecjaaGreatDoor.fnExactFirstStep
