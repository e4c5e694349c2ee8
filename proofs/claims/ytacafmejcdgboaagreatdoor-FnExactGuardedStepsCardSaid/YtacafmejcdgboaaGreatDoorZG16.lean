/-
  Proved facts that the law leans on.
-/
import Derived.Test.YtacafmejcdgboaaGreatDoorZG1
import Derived.Test.YtacafmejcdgboaaGreatDoorZG11
import Derived.Test.YtacafmejcdgboaaGreatDoorZG13
import Derived.Test.YtacafmejcdgboaaGreatDoorZG15
import Derived.Test.YtacafmejcdgboaaGreatDoorRows
import Derived.WalkSpells
import Derived.WalkLawsBesides
import Derived.BigQuiet
import Derived.Deep.DeepMust
namespace Go.Proofs.YtacafmejcdgboaaGreatDoor
open Go.RowKit
set_option linter.unusedVariables false
set_option maxRecDepth 100000
set_option maxHeartbeats 16000000
attribute [local irreducible] ar Der At jr mkL cnL lj szR wtL bA
theorem mq (sig:List Ctl) (gl:List GRl) (a:Big) (W0:oI) (hS:wtL gd sig+wtL cU gl+cI a≤1048576):ar Tryz.prog W0.toB Tryz.f4.ntmps (DN 24 (Tryz.f4.body.getD .skip)) [(0,.sy (.d (.l 3 (sig.map Ctl.D)))),(1,.sy (.d (.l 15 (gl.map GRl.D)))),(5,.sy (.bx 10005 0)),(10005,.tk (.bx [.d (.i a.roots),.d (.l 3 (a.nodes.map Nd.D)),.d (.l 1 (a.sites.map D.i)),.d (.i a.edges),.d (.l 1 (a.outer.map D.s)),.d (.l 2 (a.inner.map Wr.D))])),(6,.sy (.d (.b false))),(8,.sy (.d (.l 9 ((bA sig gl a).1.map Stp.D)))),(9,.sy (.d (.b (bA sig gl a).2))),(13,.sy (.k 30055)),(30055,.tk (.own (.l 9 ((mkL lS dN (1) (bA sig gl a).1).map Stp.D)) none none)),(14,.sy (.d (.b (bA sig gl a).2))),(16,.sy (.d (.i (1+(cnL dN (bA sig gl a).1:Nat)))))] (bodyPost Tryz.prog Tryz.f4 (post W0 (.d (.b true)))):=by
 have hb:=kz sig gl a hS
 have o0:=iF sig (by omega)
 have o1:=eL gl (by omega)
 have o2:=eO a (by omega)
 have hin:∀b:Big,cI b≤1048576→b.inner.length≤1048576:=fun b h=>by
  have e:cI b=wtL iW b.nodes+b.sites.length+wtL gD b.outer+wtL kK b.inner:=rfl
  have:=dI kK b.inner
  omega
 have hgi:=DA gl (by omega) hin
 have hgn:gl.length≤1048576:=by have:=dI cU gl;omega
 have hgl:=qu (sig:=sig) gl (by omega)
 have fi:=gi sig gl a hgi (hin a (by omega)) hgn
 have hB:=B1 sig gl a
 refine wq ?_
 have h10:=oZ (bA sig gl a).1 (1) (by omega) (by omega)
 refine jO ?_
 refine wq ?_
 clear h10
 refine Ad (vR _ _ _ _) ?_
 refine wq ?_
 clear o0 o1 o2
 have eB0:=o5 (bA sig gl a).1
 refine jO ?_
 refine wq ?_
 have h10:=oZ (bA sig gl a).1 (1) (by omega) (by omega)
 refine jO ?_
 refine wq ?_
 exact aq
theorem lQ (sig:List Ctl) (gl:List GRl) (a:Big) (W0:oI) (hS:wtL gd sig+wtL cU gl+cI a≤1048576):ar Tryz.prog W0.toB Tryz.f4.ntmps (DN 21 (Tryz.f4.body.getD .skip)) [(0,.sy (.d (.l 3 (sig.map Ctl.D)))),(1,.sy (.d (.l 15 (gl.map GRl.D)))),(5,.sy (.bx 10005 0)),(10005,.tk (.bx [.d (.i a.roots),.d (.l 3 (a.nodes.map Nd.D)),.d (.l 1 (a.sites.map D.i)),.d (.i a.edges),.d (.l 1 (a.outer.map D.s)),.d (.l 2 (a.inner.map Wr.D))])),(6,.sy (.d (.b false))),(8,.sy (.d (.l 9 ((bA sig gl a).1.map Stp.D)))),(9,.sy (.d (.b (bA sig gl a).2))),(13,.sy (.k 30055)),(30055,.tk (.own (.l 9 ((bA sig gl a).1.map Stp.D)) none none)),(14,.sy (.d (.b (bA sig gl a).2))),(15,.sy (.d (.i (1+(cnL c3 sig:Nat)+(cnL qg gl:Nat)+(kU a:Nat)))))] (bodyPost Tryz.prog Tryz.f4 (post W0 (.d (.b true)))):=by
 have hb:=kz sig gl a hS
 have o0:=iF sig (by omega)
 have o1:=eL gl (by omega)
 have o2:=eO a (by omega)
 have hin:∀b:Big,cI b≤1048576→b.inner.length≤1048576:=fun b h=>by
  have e:cI b=wtL iW b.nodes+b.sites.length+wtL gD b.outer+wtL kK b.inner:=rfl
  have:=dI kK b.inner
  omega
 have hgi:=DA gl (by omega) hin
 have hgn:gl.length≤1048576:=by have:=dI cU gl;omega
 have hgl:=qu (sig:=sig) gl (by omega)
 have fi:=gi sig gl a hgi (hin a (by omega)) hgn
 have hB:=B1 sig gl a
 refine wq ?_
 have eB0:=o5 (bA sig gl a).1
 refine jO ?_
 refine wq ?_
 clear eB0
 have m10:=vF (bA sig gl a).1 (1) (by omega) (by omega)
 refine jq ?_
 refine vn ?_
 refine df (aN ?_)
 refine Jf [(0,.sy (.d (.l 3 (sig.map Ctl.D)))),(1,.sy (.d (.l 15 (gl.map GRl.D)))),(5,.sy (.bx 10005 0)),(10005,.tk (.bx [.d (.i a.roots),.d (.l 3 (a.nodes.map Nd.D)),.d (.l 1 (a.sites.map D.i)),.d (.i a.edges),.d (.l 1 (a.outer.map D.s)),.d (.l 2 (a.inner.map Wr.D))])),(6,.sy (.d (.b false))),(8,.sy (.d (.l 9 ((bA sig gl a).1.map Stp.D)))),(9,.sy (.d (.b (bA sig gl a).2))),(13,.sy (.k 30055)),(30055,.tk (.own (.l 9 ((mkL lS dN (1) (bA sig gl a).1).map Stp.D)) none none)),(14,.sy (.d (.b (bA sig gl a).2))),(16,.sy (.d (.i (1+(cnL dN (bA sig gl a).1:Nat)))))] ?_
 exact mq sig gl a W0 hS
theorem lB (sig:List Ctl) (gl:List GRl) (a:Big) (W0:oI) (hS:wtL gd sig+wtL cU gl+cI a≤1048576):ar Tryz.prog W0.toB Tryz.f4.ntmps (DN 14 (Tryz.f4.body.getD .skip)) [(0,.sy (.d (.l 3 (sig.map Ctl.D)))),(1,.sy (.d (.l 15 (gl.map GRl.D)))),(5,.sy (.bx 10005 0)),(10005,.tk (.bx [.d (.i a.roots),.d (.l 3 (a.nodes.map Nd.D)),.d (.l 1 (a.sites.map D.i)),.d (.i a.edges),.d (.l 1 (a.outer.map D.s)),.d (.l 2 (a.inner.map Wr.D))])),(6,.sy (.d (.b false))),(8,.sy (.d (.l 9 ((bA sig gl a).1.map Stp.D)))),(9,.sy (.d (.b (bA sig gl a).2))),(10,.sy (.k 30046)),(30046,.tk (.own (.l 3 (sig.map Ctl.D)) none none)),(11,.sy (.k 30048)),(30048,.tk (.own (.l 15 (gl.map GRl.D)) none none)),(12,.sy (.bx 10012 0)),(10012,.tk (.bx [.d (.i a.roots),.k 31050,.k 32050,.d (.i a.edges),.k 34050,.k 35050])),(31050,.tk (.own (.l 3 (a.nodes.map Nd.D)) none none)),(32050,.tk (.own (.l 1 (a.sites.map D.i)) none none)),(34050,.tk (.own (.l 1 (a.outer.map D.s)) none none)),(35050,.tk (.own (.l 2 (a.inner.map Wr.D)) none none)),(13,.sy (.k 30055)),(30055,.tk (.own (.l 9 ((bA sig gl a).1.map Stp.D)) none none)),(14,.sy (.d (.b (bA sig gl a).2))),(66,.sy (.d (.b false)))] (bodyPost Tryz.prog Tryz.f4 (post W0 (.d (.b true)))):=by
 have hb:=kz sig gl a hS
 have o0:=iF sig (by omega)
 have o1:=eL gl (by omega)
 have o2:=eO a (by omega)
 have hin:∀b:Big,cI b≤1048576→b.inner.length≤1048576:=fun b h=>by
  have e:cI b=wtL iW b.nodes+b.sites.length+wtL gD b.outer+wtL kK b.inner:=rfl
  have:=dI kK b.inner
  omega
 have hgi:=DA gl (by omega) hin
 have hgn:gl.length≤1048576:=by have:=dI cU gl;omega
 have hgl:=qu (sig:=sig) gl (by omega)
 have fi:=gi sig gl a hgi (hin a (by omega)) hgn
 have hB:=B1 sig gl a
 refine wq ?_
 have e0:=rV sig
 refine jO ?_
 refine wq ?_
 have e1:=nA gl
 refine jO ?_
 refine wq ?_
 have e2:=gX a
 refine jO ?_
 refine wq ?_
 have m0:=pJ sig (1) (by omega) (by omega)
 refine jq ?_
 refine wq ?_
 have m1:=lX gl (1+(cnL c3 sig:Nat)) (by omega) (by omega)
 refine jq ?_
 refine wq ?_
 have m2:=qJ a (1+(cnL c3 sig:Nat)+(cnL qg gl:Nat)) (by omega) (by omega)
 refine rA ?_
 refine vn ?_
 refine df (aN ?_)
 refine Jf [(0,.sy (.d (.l 3 (sig.map Ctl.D)))),(1,.sy (.d (.l 15 (gl.map GRl.D)))),(5,.sy (.bx 10005 0)),(10005,.tk (.bx [.d (.i a.roots),.d (.l 3 (a.nodes.map Nd.D)),.d (.l 1 (a.sites.map D.i)),.d (.i a.edges),.d (.l 1 (a.outer.map D.s)),.d (.l 2 (a.inner.map Wr.D))])),(6,.sy (.d (.b false))),(8,.sy (.d (.l 9 ((bA sig gl a).1.map Stp.D)))),(9,.sy (.d (.b (bA sig gl a).2))),(13,.sy (.k 30055)),(30055,.tk (.own (.l 9 ((bA sig gl a).1.map Stp.D)) none none)),(14,.sy (.d (.b (bA sig gl a).2))),(15,.sy (.d (.i (1+(cnL c3 sig:Nat)+(cnL qg gl:Nat)+(kU a:Nat)))))] ?_
 exact lQ sig gl a W0 hS
theorem mJ (sig:List Ctl) (gl:List GRl) (a:Big):FnD Tryz.prog 4 [.l 3 (sig.map Ctl.D),.l 15 (gl.map GRl.D),a.D] (.d (.b true)):=by
 refine ah Tryz.func4 (fun hw W0=>?_)
 have f0:=sa sig 1048576 (by omega) (by omega)
 by_cases s0:((wtL gd sig:Nat):Int)≤1048576
 rotate_left
 ·rw [szN s0] at f0
  refine kgo ?_
  exact aq
 rw [szP s0] at f0
 have f1:=nG gl (1048576 - (wtL gd sig:Nat)) (by omega) (by omega)
 refine kgo ?_
 refine aL (fun h=>?_) (fun _=>?_)
 ·omega
 by_cases s1:((wtL cU gl:Nat):Int)≤1048576 - (wtL gd sig:Nat)
 rotate_left
 ·rw [szN s1] at f1
  refine kgo ?_
  exact aq
 rw [szP s1] at f1
 have f2:=ja a (1048576 - (wtL gd sig:Nat) - (wtL cU gl:Nat)) (by omega) (by omega)
 refine kgo ?_
 refine aL (fun h=>?_) (fun _=>?_)
 ·omega
 by_cases s2:((cI a:Nat):Int)≤1048576 - (wtL gd sig:Nat) - (wtL cU gl:Nat)
 rotate_left
 ·rw [szN s2] at f2
  refine kgo ?_
  exact aq
 rw [szP s2] at f2
 have hb:=kz sig gl a (by omega)
 have o0:=iF sig (by omega)
 have o1:=eL gl (by omega)
 have o2:=eO a (by omega)
 have hin:∀b:Big,cI b≤1048576→b.inner.length≤1048576:=fun b h=>by
  have e:cI b=wtL iW b.nodes+b.sites.length+wtL gD b.outer+wtL kK b.inner:=rfl
  have:=dI kK b.inner
  omega
 have hgi:=DA gl (by omega) hin
 have hgn:gl.length≤1048576:=by have:=dI cU gl;omega
 have hgl:=qu (sig:=sig) gl (by omega)
 have fi:=gi sig gl a hgi (hin a (by omega)) hgn
 have g0:=o0.toR
 have g1:=o1.toR
 have g2:=FnO.toD (n:=5) o2
 clear f0 f1
 refine kgo ?_
 refine aL (fun h=>?_) (fun _=>?_)
 ·omega
 clear f2
 refine kgo ?_
 have fs:=mr sig gl a hgi (hin a (by omega)) hgn hgl
 refine aQ ?_
 clear g0 g1 g2 fs
 refine kgo ?_
 refine Ad (vR _ _ _ _) ?_
 refine wq ?_
 have eB0:=o5 (bA sig gl a).1
 refine jO ?_
 refine vn ?_
 refine df (aN ?_)
 refine IM 30055 ?_
 refine Jf [(0,.sy (.d (.l 3 (sig.map Ctl.D)))),(1,.sy (.d (.l 15 (gl.map GRl.D)))),(5,.sy (.bx 10005 0)),(10005,.tk (.bx [.d (.i a.roots),.d (.l 3 (a.nodes.map Nd.D)),.d (.l 1 (a.sites.map D.i)),.d (.i a.edges),.d (.l 1 (a.outer.map D.s)),.d (.l 2 (a.inner.map Wr.D))])),(6,.sy (.d (.b false))),(8,.sy (.d (.l 9 ((bA sig gl a).1.map Stp.D)))),(9,.sy (.d (.b (bA sig gl a).2))),(10,.sy (.k 30046)),(30046,.tk (.own (.l 3 (sig.map Ctl.D)) none none)),(11,.sy (.k 30048)),(30048,.tk (.own (.l 15 (gl.map GRl.D)) none none)),(12,.sy (.bx 10012 0)),(10012,.tk (.bx [.d (.i a.roots),.k 31050,.k 32050,.d (.i a.edges),.k 34050,.k 35050])),(31050,.tk (.own (.l 3 (a.nodes.map Nd.D)) none none)),(32050,.tk (.own (.l 1 (a.sites.map D.i)) none none)),(34050,.tk (.own (.l 1 (a.outer.map D.s)) none none)),(35050,.tk (.own (.l 2 (a.inner.map Wr.D)) none none)),(13,.sy (.k 30055)),(30055,.tk (.own (.l 9 ((bA sig gl a).1.map Stp.D)) none none)),(14,.sy (.d (.b (bA sig gl a).2))),(66,.sy (.d (.b false)))] ?_
 refine fx ?_
 refine cz ?_
 refine aN ?_
 exact lB sig gl a W0 (by omega)
end Go.Proofs.YtacafmejcdgboaaGreatDoor
namespace Go.Proofs.YtacafmejcdgboaaGreatDoor
open Go.RowKit
theorem i7 (v0:Value) (sig:List Ctl) (v1:Value) (gl:List GRl) (cs2:List Value) (a:Big) (W:World) (b0:Rp W (fun b=>b<W.heap.size) (.l 3 (sig.map Ctl.D)) [v0]) (b1:Rp W (fun b=>b<W.heap.size) (.l 15 (gl.map GRl.D)) [v1]) (b2:Rp W (fun b=>b<W.heap.size) a.D cs2):Calls Tryz.prog 4 #[v0,v1,.agg cs2.toArray] W fun e w'=>e=.returned (.bool true)∧Ext W w':=
 Hg (mJ sig gl a) ⟨v0,_,rfl,b0,v1,_,rfl,b1,_,_,rfl,⟨cs2,rfl,b2⟩,rfl⟩
end Go.Proofs.YtacafmejcdgboaaGreatDoor
