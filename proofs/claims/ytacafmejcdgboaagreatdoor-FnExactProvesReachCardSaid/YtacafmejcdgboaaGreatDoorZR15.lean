/-
  Proved facts that the law leans on.
-/
import Derived.Test.YtacafmejcdgboaaGreatDoorZR1
import Derived.Test.YtacafmejcdgboaaGreatDoorZR2
import Derived.Test.YtacafmejcdgboaaGreatDoorZR3
import Derived.Test.YtacafmejcdgboaaGreatDoorZR8
import Derived.Test.YtacafmejcdgboaaGreatDoorZR9
import Derived.Test.YtacafmejcdgboaaGreatDoorZR10
import Derived.Test.YtacafmejcdgboaaGreatDoorZR11
import Derived.Test.YtacafmejcdgboaaGreatDoorZR14
import Derived.Test.YtacafmejcdgboaaGreatDoorRows
import Derived.WalkSpells
import Derived.WalkLawsBesides
import Derived.BigQuiet
import Derived.Deep.DeepMust
namespace Go.Proofs.YtacafmejcdgboaaGreatDoor
open Go.RowKit
set_option linter.unusedVariables false
set_option maxRecDepth 100000
set_option maxHeartbeats 16000000
attribute [local irreducible] aD Der At szR wtL m7
theorem mH (sig:List Ctl) (rs:List Rul) (a:Big) (t:Trc) (g:Big):FnD Tryz.prog 3 [.l 3 (sig.map Ctl.D),.l 13 (rs.map Rul.D),a.D,t.D,g.D] (.d (.b true)):=by
 refine ah Tryz.func3 (fun hw W0=>?_)
 have f0:=rk sig 1048576 (by omega) (by omega)
 by_cases s0:((wtL fW sig:Nat):Int)≤1048576
 rotate_left
 ·rw [szN s0] at f0
  refine kgo ?_
  exact ar
 rw [szP s0] at f0
 have f1:=yi rs (1048576 - (wtL fW sig:Nat)) (by omega) (by omega)
 refine kgo ?_
 refine bo (fun h=>?_) (fun _=>?_)
 ·omega
 by_cases s1:((wtL eY rs:Nat):Int)≤1048576 - (wtL fW sig:Nat)
 rotate_left
 ·rw [szN s1] at f1
  refine kgo ?_
  exact ar
 rw [szP s1] at f1
 have f2:=iQ a (1048576 - (wtL fW sig:Nat) - (wtL eY rs:Nat)) (by omega) (by omega)
 refine kgo ?_
 refine bo (fun h=>?_) (fun _=>?_)
 ·omega
 by_cases s2:((eD a:Nat):Int)≤1048576 - (wtL fW sig:Nat) - (wtL eY rs:Nat)
 rotate_left
 ·rw [szN s2] at f2
  refine kgo ?_
  exact ar
 rw [szP s2] at f2
 have f3:=Ac t (1048576 - (wtL fW sig:Nat) - (wtL eY rs:Nat) - (eD a:Nat)) (by omega) (by omega)
 refine kgo ?_
 refine bo (fun h=>?_) (fun _=>?_)
 ·omega
 by_cases s3:((sA t:Nat):Int)≤1048576 - (wtL fW sig:Nat) - (wtL eY rs:Nat) - (eD a:Nat)
 rotate_left
 ·rw [szN s3] at f3
  refine kgo ?_
  exact ar
 rw [szP s3] at f3
 clear f2
 have f4:=iQ g (1048576 - (wtL fW sig:Nat) - (wtL eY rs:Nat) - (eD a:Nat) - (sA t:Nat)) (by omega) (by omega)
 refine kgo ?_
 refine bo (fun h=>?_) (fun _=>?_)
 ·omega
 by_cases s4:((eD g:Nat):Int)≤1048576 - (wtL fW sig:Nat) - (wtL eY rs:Nat) - (eD a:Nat) - (sA t:Nat)
 rotate_left
 ·rw [szN s4] at f4
  refine kgo ?_
  exact ar
 rw [szP s4] at f4
 have hin:∀b:Big,eD b≤1048576→b.inner.length≤1048576:=fun b h=>by
  have e:eD b=wtL kv b.nodes+b.sites.length+wtL iX b.outer+wtL mT b.inner:=rfl
  have:=kN mT b.inner
  omega
 have hrs:∀r∈rs,r.redex.inner.length≤1048576∧r.reactum.inner.length≤1048576:=fun r hr=>by
  have h1:=po eY rs r hr
  have e:eY r=eD r.redex+eD r.reactum+r.copies.length:=rfl
  exact ⟨hin _ (by omega),hin _ (by omega)⟩
 have g0:=(sd sig (by omega)).toR
 have g1:=(yw rs (by omega)).toR
 have g2:=FnO.toD (n:=5) (iS a (by omega))
 have g3:=FnO.toD (n:=1) (AD t (by omega))
 have g4:=FnO.toD (n:=5) (iS g (by omega))
 have fs:=lY sig rs a t g hrs (hin a (by omega)) (hin g (by omega))
 have fi:=pw sig rs a t g hrs (hin a (by omega)) (hin g (by omega))
 clear f0 f1 f3
 refine kgo ?_
 refine bo (fun h=>?_) (fun _=>?_)
 ·omega
 clear f4
 refine GQ ?_
 have e0:=sm sig
 have e1:=zS rs
 have e2:=i6 a
 have e3:=xP t
 have e4:=i6 g
 clear fs fi
 refine GQ ?_
 exact ar
end Go.Proofs.YtacafmejcdgboaaGreatDoor
namespace Go.Proofs.YtacafmejcdgboaaGreatDoor
open Go.RowKit
theorem jh (v0:Value) (sig:List Ctl) (v1:Value) (rs:List Rul) (cs2:List Value) (a:Big) (cs3:List Value) (t:Trc) (cs4:List Value) (g:Big) (W:World) (b0:Rp W (fun b=>b<W.heap.size) (.l 3 (sig.map Ctl.D)) [v0]) (b1:Rp W (fun b=>b<W.heap.size) (.l 13 (rs.map Rul.D)) [v1]) (b2:Rp W (fun b=>b<W.heap.size) a.D cs2) (b3:Rp W (fun b=>b<W.heap.size) t.D cs3) (b4:Rp W (fun b=>b<W.heap.size) g.D cs4):Calls Tryz.prog 3 #[v0,v1,.agg cs2.toArray,.agg cs3.toArray,.agg cs4.toArray] W fun e w'=>e=.returned (.bool true)∧Ext W w':=
 Fr (mH sig rs a t g) ⟨v0,_,rfl,b0,v1,_,rfl,b1,_,_,rfl,⟨cs2,rfl,b2⟩,_,_,rfl,⟨cs3,rfl,b3⟩,_,_,rfl,⟨cs4,rfl,b4⟩,rfl⟩
end Go.Proofs.YtacafmejcdgboaaGreatDoor
