/-
  Proved facts that the law leans on.
-/
import Derived.Test.YtacafmejcdgboaaGreatDoorZR2
import Derived.Test.YtacafmejcdgboaaGreatDoorZR3
import Derived.Test.YtacafmejcdgboaaGreatDoorZR8
import Derived.Test.YtacafmejcdgboaaGreatDoorZR9
import Derived.Test.YtacafmejcdgboaaGreatDoorZR10
import Derived.Test.YtacafmejcdgboaaGreatDoorZR11
import Derived.Test.YtacafmejcdgboaaGreatDoorZR12
import Derived.Test.YtacafmejcdgboaaGreatDoorZR13
import Derived.Test.YtacafmejcdgboaaGreatDoorRows
import Derived.WalkSpells
import Derived.WalkLawsBesides
import Derived.BigQuiet
import Derived.Deep.DeepMust
namespace Go.Proofs.YtacafmejcdgboaaGreatDoor
open Go.RowKit
set_option linter.unusedVariables false
set_option maxRecDepth 100000
set_option maxHeartbeats 1000000
attribute [local irreducible] aD Der At
theorem jV (xs:List Int) (hx:xs.length≤1048576):FnO Tryz.prog 44 [.l 1 (xs.map D.i)] [0] [.tk (.own (.l 1 (xs.map D.i)) none none)]:=by
 refine dp Tryz.func44 (fun hw W0=>?_)
 refine kgo ?_
 refine mu (n:=xs.length) (.i 0) ?_ rfl rfl (hb:=by show 8 * xs.length≤1000000000;omega)
 refine kgo ?_
 refine ta (ds:=List.replicate xs.length (.i 0)) 10007 (fun d hd=>by rw [(List.mem_replicate.1 hd).2];exact ⟨rfl,rfl⟩) ?_
 refine aj [0,3,10007] (fun x:Nat × List D=>x.1≤xs.length∧x.2=qB D.i (.i 0) x.1 xs) (fun x=>xs.length - x.1) (fun x=>[(4,.sy (.d (.i x.1))),(10007,.tk (.own (.l 1 x.2) none none))]) (0,List.replicate xs.length (.i 0)) ⟨Nat.zero_le _,gM _ _ _⟩ (fun x hx=>?_)
 obtain ⟨i,ds⟩:=x
 obtain ⟨hi,hd⟩:=hx
 dsimp only at hi hd ⊢
 have hdl:=i8 hi hd
 refine kgt ?_
 refine bo (fun h=>?_) (fun h=>?_)
 ·have hlt:i<xs.length:=by omega
  have hlt':i<ds.length:=by omega
  have he:=kD hlt hd
  refine kgt ?_
  refine ym i 0 (ds.set i (D.i xs[i])) he rfl ?_
  refine kgt ?_
  exact ab (i+1,ds.set i (D.i xs[i])) ⟨hlt,gJ hlt hd⟩ (by show _ - (i+1)<_ - i;omega)
 rw [i9 (by omega) hd]
 refine kgt ?_
 exact gK (hp:=.cons (.k rfl rfl) .nil)
theorem ur (xs:List ByteArray) (hx:wtL iX xs≤1048576):FnO Tryz.prog 45 [.l 1 (xs.map D.s)] [0] [.tk (.own (.l 1 (xs.map D.s)) none none)]:=by
 refine dp Tryz.func45 (fun hw W0=>?_)
 have hxl:=kN iX xs
 refine kgo ?_
 refine mu (n:=xs.length) (.s ⟨#[]⟩) ?_ rfl rfl (hb:=by show 16 * xs.length≤1000000000;omega)
 refine kgo ?_
 refine ta (ds:=List.replicate xs.length (.s ⟨#[]⟩)) 10007 (fun d hd=>by rw [(List.mem_replicate.1 hd).2];exact ⟨rfl,rfl⟩) ?_
 refine aj [0,3,10007] (fun x:Nat × List D=>x.1≤xs.length∧x.2=qB D.s (.s ⟨#[]⟩) x.1 xs) (fun x=>xs.length - x.1) (fun x=>[(4,.sy (.d (.i x.1))),(10007,.tk (.own (.l 1 x.2) none none))]) (0,List.replicate xs.length (.s ⟨#[]⟩)) ⟨Nat.zero_le _,gM _ _ _⟩ (fun x hx=>?_)
 obtain ⟨i,ds⟩:=x
 obtain ⟨hi,hd⟩:=hx
 dsimp only at hi hd ⊢
 have hdl:=i8 hi hd
 refine kgt ?_
 refine bo (fun h=>?_) (fun h=>?_)
 ·have hlt:i<xs.length:=by omega
  have hlt':i<ds.length:=by omega
  have he:=kD hlt hd
  refine kgt ?_
  refine ym i 0 (ds.set i (D.s xs[i])) he rfl ?_
  refine kgt ?_
  exact ab (i+1,ds.set i (D.s xs[i])) ⟨hlt,gJ hlt hd⟩ (by show _ - (i+1)<_ - i;omega)
 rw [i9 (by omega) hd]
 refine kgt ?_
 exact gK (hp:=.cons (.k rfl rfl) .nil)
theorem tN (x:Ctl):FnD Tryz.prog 41 [Ctl.D x] (.d (Ctl.D x)):=by
 refine ah Tryz.func41 (fun hw W0=>?_)
 refine kgo ?_
 exact ar
theorem sd (xs:List Ctl) (hx:wtL fW xs≤1048576):FnO Tryz.prog 10 [.l 3 (xs.map Ctl.D)] [0] [.tk (.own (.l 3 (xs.map Ctl.D)) none none)]:=by
 refine dp Tryz.func10 (fun hw W0=>?_)
 have hxl:=kN fW xs
 refine kgo ?_
 refine mu (n:=xs.length) (.t [.s ⟨#[]⟩,.i 0,.i 0]) ?_ rfl rfl (hb:=by show 32 * xs.length≤1000000000;omega)
 refine kgo ?_
 refine ta (ds:=List.replicate xs.length (.t [.s ⟨#[]⟩,.i 0,.i 0])) 10007 (fun d hd=>by rw [(List.mem_replicate.1 hd).2];exact ⟨rfl,rfl⟩) ?_
 refine aj [0,3,10007] (fun x:Nat × List D=>x.1≤xs.length∧x.2=qB Ctl.D (.t [.s ⟨#[]⟩,.i 0,.i 0]) x.1 xs) (fun x=>xs.length - x.1) (fun x=>[(4,.sy (.d (.i x.1))),(10007,.tk (.own (.l 3 x.2) none none))]) (0,List.replicate xs.length (.t [.s ⟨#[]⟩,.i 0,.i 0])) ⟨Nat.zero_le _,gM _ _ _⟩ (fun x hx=>?_)
 obtain ⟨i,ds⟩:=x
 obtain ⟨hi,hd⟩:=hx
 dsimp only at hi hd ⊢
 have hdl:=i8 hi hd
 refine kgt ?_
 refine bo (fun h=>?_) (fun h=>?_)
 ·have hlt:i<xs.length:=by omega
  have hlt':i<ds.length:=by omega
  have he:=kD hlt hd
  have f:=tN xs[i]
  refine kgt ?_
  exact ab (i+1,ds.set i (Ctl.D xs[i])) ⟨hlt,gJ hlt hd⟩ (by show _ - (i+1)<_ - i;omega)
 rw [i9 (by omega) hd]
 refine kgt ?_
 exact gK (hp:=.cons (.k rfl rfl) .nil)
theorem Bk (x:Wr):FnD Tryz.prog 96 [Wr.D x] (.d (Wr.D x)):=by
 refine ah Tryz.func96 (fun hw W0=>?_)
 refine kgo ?_
 exact ar
theorem As (xs:List Wr) (hx:wtL mT xs≤1048576):FnO Tryz.prog 46 [.l 2 (xs.map Wr.D)] [0] [.tk (.own (.l 2 (xs.map Wr.D)) none none)]:=by
 refine dp Tryz.func46 (fun hw W0=>?_)
 have hxl:=kN mT xs
 refine kgo ?_
 refine mu (n:=xs.length) (.t [.s ⟨#[]⟩,.i 0]) ?_ rfl rfl (hb:=by show 24 * xs.length≤1000000000;omega)
 refine kgo ?_
 refine ta (ds:=List.replicate xs.length (.t [.s ⟨#[]⟩,.i 0])) 10007 (fun d hd=>by rw [(List.mem_replicate.1 hd).2];exact ⟨rfl,rfl⟩) ?_
 refine aj [0,3,10007] (fun x:Nat × List D=>x.1≤xs.length∧x.2=qB Wr.D (.t [.s ⟨#[]⟩,.i 0]) x.1 xs) (fun x=>xs.length - x.1) (fun x=>[(4,.sy (.d (.i x.1))),(10007,.tk (.own (.l 2 x.2) none none))]) (0,List.replicate xs.length (.t [.s ⟨#[]⟩,.i 0])) ⟨Nat.zero_le _,gM _ _ _⟩ (fun x hx=>?_)
 obtain ⟨i,ds⟩:=x
 obtain ⟨hi,hd⟩:=hx
 dsimp only at hi hd ⊢
 have hdl:=i8 hi hd
 refine kgt ?_
 refine bo (fun h=>?_) (fun h=>?_)
 ·have hlt:i<xs.length:=by omega
  have hlt':i<ds.length:=by omega
  have he:=kD hlt hd
  have f:=Bk xs[i]
  refine kgt ?_
  exact ab (i+1,ds.set i (Wr.D xs[i])) ⟨hlt,gJ hlt hd⟩ (by show _ - (i+1)<_ - i;omega)
 rw [i9 (by omega) hd]
 refine kgt ?_
 exact gK (hp:=.cons (.k rfl rfl) .nil)
theorem Cj (x:Nd) (hx:kv x≤1048576):FnO Tryz.prog 95 [Nd.D x] [3] [.d (.i x.control),.d (.i x.parent),.tk (.own (.l 1 (x.links.map D.i)) none none)]:=by
 have hww:kv x=(x.links).length:=rfl
 have flinks:=jV x.links (by omega)
 refine dp Tryz.func95 (fun hw W0=>?_)
 refine kgt ?_
 exact gK (hp:=.cons (.d rfl) (.cons (.d rfl) (.cons (.k rfl rfl) (.nil))))
theorem yF (xs:List Nd) (hx:wtL kv xs≤1048576):FnO Tryz.prog 43 [.l 3 (xs.map Nd.D)] [0] [.tk (.own (.l 3 (xs.map Nd.D)) none none)]:=by
 refine dp Tryz.func43 (fun hw W0=>?_)
 have hxl:=kN kv xs
 refine kgo ?_
 refine mu (n:=xs.length) (.t [.i 0,.i 0,.n 1]) ?_ rfl rfl (hb:=by show 40 * xs.length≤1000000000;omega)
 refine kgo ?_
 refine ta (ds:=List.replicate xs.length (.t [.i 0,.i 0,.n 1])) 10007 (fun d hd=>by rw [(List.mem_replicate.1 hd).2];exact ⟨rfl,rfl⟩) ?_
 refine aj [0,3,10007] (fun x:Nat × List D=>x.1≤xs.length∧x.2=qB Nd.D (.t [.i 0,.i 0,.n 1]) x.1 xs) (fun x=>xs.length - x.1) (fun x=>[(4,.sy (.d (.i x.1))),(10007,.tk (.own (.l 3 x.2) none none))]) (0,List.replicate xs.length (.t [.i 0,.i 0,.n 1])) ⟨Nat.zero_le _,gM _ _ _⟩ (fun x hx=>?_)
 obtain ⟨i,ds⟩:=x
 obtain ⟨hi,hd⟩:=hx
 dsimp only at hi hd ⊢
 have hdl:=i8 hi hd
 refine kgt ?_
 refine bo (fun h=>?_) (fun h=>?_)
 ·have hlt:i<xs.length:=by omega
  have hlt':i<ds.length:=by omega
  have he:=kD hlt hd
  have f:=Cj xs[i] (by have:=po kv xs _ (List.getElem_mem hlt);omega)
  refine kgt ?_
  refine pt (Nd.D xs[i]) ?_
  refine kgt ?_
  exact ab (i+1,ds.set i (Nd.D xs[i])) ⟨hlt,gJ hlt hd⟩ (by show _ - (i+1)<_ - i;omega)
 rw [i9 (by omega) hd]
 refine kgt ?_
 exact gK (hp:=.cons (.k rfl rfl) .nil)
theorem iS (x:Big) (hx:eD x≤1048576):FnO Tryz.prog 12 [Big.D x] [6] [.d (.i x.roots),.tk (.own (.l 3 (x.nodes.map Nd.D)) none none),.tk (.own (.l 1 (x.sites.map D.i)) none none),.d (.i x.edges),.tk (.own (.l 1 (x.outer.map D.s)) none none),.tk (.own (.l 2 (x.inner.map Wr.D)) none none)]:=by
 have hww:eD x=wtL kv x.nodes+(x.sites).length+wtL iX x.outer+wtL mT x.inner:=rfl
 have fnodes:=yF x.nodes (by omega)
 have fsites:=jV x.sites (by omega)
 have fouter:=ur x.outer (by omega)
 have finner:=As x.inner (by omega)
 refine dp Tryz.func12 (fun hw W0=>?_)
 refine kgt ?_
 exact gK (hp:=.cons (.d rfl) (.cons (.k rfl rfl) (.cons (.k rfl rfl) (.cons (.d rfl) (.cons (.k rfl rfl) (.cons (.k rfl rfl) (.nil)))))))
theorem Bo (x:Rul) (hx:eY x≤1048576):FnO Tryz.prog 42 [Rul.D x] [13] [.d (.i x.redex.roots),.tk (.own (.l 3 (x.redex.nodes.map Nd.D)) none none),.tk (.own (.l 1 (x.redex.sites.map D.i)) none none),.d (.i x.redex.edges),.tk (.own (.l 1 (x.redex.outer.map D.s)) none none),.tk (.own (.l 2 (x.redex.inner.map Wr.D)) none none),.d (.i x.reactum.roots),.tk (.own (.l 3 (x.reactum.nodes.map Nd.D)) none none),.tk (.own (.l 1 (x.reactum.sites.map D.i)) none none),.d (.i x.reactum.edges),.tk (.own (.l 1 (x.reactum.outer.map D.s)) none none),.tk (.own (.l 2 (x.reactum.inner.map Wr.D)) none none),.tk (.own (.l 1 (x.copies.map D.i)) none none)]:=by
 have hww:eY x=eD x.redex+eD x.reactum+(x.copies).length:=rfl
 have fredex:=iS x.redex (by omega)
 have freactum:=iS x.reactum (by omega)
 have fcopies:=jV x.copies (by omega)
 refine dp Tryz.func42 (fun hw W0=>?_)
 refine kgt ?_
 exact gK (hp:=.cons (.d rfl) (.cons (.k rfl rfl) (.cons (.k rfl rfl) (.cons (.d rfl) (.cons (.k rfl rfl) (.cons (.k rfl rfl) (.cons (.d rfl) (.cons (.k rfl rfl) (.cons (.k rfl rfl) (.cons (.d rfl) (.cons (.k rfl rfl) (.cons (.k rfl rfl) (.cons (.k rfl rfl) (.nil))))))))))))))
theorem yw (xs:List Rul) (hx:wtL eY xs≤1048576):FnO Tryz.prog 11 [.l 13 (xs.map Rul.D)] [0] [.tk (.own (.l 13 (xs.map Rul.D)) none none)]:=by
 refine dp Tryz.func11 (fun hw W0=>?_)
 have hxl:=kN eY xs
 refine kgo ?_
 refine mu (n:=xs.length) (.t [.t [.i 0,.n 3,.n 1,.i 0,.n 1,.n 2],.t [.i 0,.n 3,.n 1,.i 0,.n 1,.n 2],.n 1]) ?_ rfl rfl (hb:=by show 248 * xs.length≤1000000000;omega)
 refine kgo ?_
 refine ta (ds:=List.replicate xs.length (.t [.t [.i 0,.n 3,.n 1,.i 0,.n 1,.n 2],.t [.i 0,.n 3,.n 1,.i 0,.n 1,.n 2],.n 1])) 10007 (fun d hd=>by rw [(List.mem_replicate.1 hd).2];exact ⟨rfl,rfl⟩) ?_
 refine aj [0,3,10007] (fun x:Nat × List D=>x.1≤xs.length∧x.2=qB Rul.D (.t [.t [.i 0,.n 3,.n 1,.i 0,.n 1,.n 2],.t [.i 0,.n 3,.n 1,.i 0,.n 1,.n 2],.n 1]) x.1 xs) (fun x=>xs.length - x.1) (fun x=>[(4,.sy (.d (.i x.1))),(10007,.tk (.own (.l 13 x.2) none none))]) (0,List.replicate xs.length (.t [.t [.i 0,.n 3,.n 1,.i 0,.n 1,.n 2],.t [.i 0,.n 3,.n 1,.i 0,.n 1,.n 2],.n 1])) ⟨Nat.zero_le _,gM _ _ _⟩ (fun x hx=>?_)
 obtain ⟨i,ds⟩:=x
 obtain ⟨hi,hd⟩:=hx
 dsimp only at hi hd ⊢
 have hdl:=i8 hi hd
 refine kgt ?_
 refine bo (fun h=>?_) (fun h=>?_)
 ·have hlt:i<xs.length:=by omega
  have hlt':i<ds.length:=by omega
  have he:=kD hlt hd
  have f:=Bo xs[i] (by have:=po eY xs _ (List.getElem_mem hlt);omega)
  refine kgt ?_
  refine pt (Rul.D xs[i]) ?_
  refine kgt ?_
  exact ab (i+1,ds.set i (Rul.D xs[i])) ⟨hlt,gJ hlt hd⟩ (by show _ - (i+1)<_ - i;omega)
 rw [i9 (by omega) hd]
 refine kgt ?_
 exact gK (hp:=.cons (.k rfl rfl) .nil)
theorem zC (x:Mat) (hx:gd x≤1048576):FnO Tryz.prog 97 [Mat.D x] [2] [.tk (.own (.l 1 (x.nodes.map D.i)) none none),.tk (.own (.l 1 (x.roots.map D.i)) none none)]:=by
 have hww:gd x=(x.nodes).length+(x.roots).length:=rfl
 have fnodes:=jV x.nodes (by omega)
 have froots:=jV x.roots (by omega)
 refine dp Tryz.func97 (fun hw W0=>?_)
 refine kgt ?_
 exact gK (hp:=.cons (.k rfl rfl) (.cons (.k rfl rfl) (.nil)))
theorem wx (xs:List Mat) (hx:wtL gd xs≤1048576):FnO Tryz.prog 47 [.l 2 (xs.map Mat.D)] [0] [.tk (.own (.l 2 (xs.map Mat.D)) none none)]:=by
 refine dp Tryz.func47 (fun hw W0=>?_)
 have hxl:=kN gd xs
 refine kgo ?_
 refine mu (n:=xs.length) (.t [.n 1,.n 1]) ?_ rfl rfl (hb:=by show 48 * xs.length≤1000000000;omega)
 refine kgo ?_
 refine ta (ds:=List.replicate xs.length (.t [.n 1,.n 1])) 10007 (fun d hd=>by rw [(List.mem_replicate.1 hd).2];exact ⟨rfl,rfl⟩) ?_
 refine aj [0,3,10007] (fun x:Nat × List D=>x.1≤xs.length∧x.2=qB Mat.D (.t [.n 1,.n 1]) x.1 xs) (fun x=>xs.length - x.1) (fun x=>[(4,.sy (.d (.i x.1))),(10007,.tk (.own (.l 2 x.2) none none))]) (0,List.replicate xs.length (.t [.n 1,.n 1])) ⟨Nat.zero_le _,gM _ _ _⟩ (fun x hx=>?_)
 obtain ⟨i,ds⟩:=x
 obtain ⟨hi,hd⟩:=hx
 dsimp only at hi hd ⊢
 have hdl:=i8 hi hd
 refine kgt ?_
 refine bo (fun h=>?_) (fun h=>?_)
 ·have hlt:i<xs.length:=by omega
  have hlt':i<ds.length:=by omega
  have he:=kD hlt hd
  have f:=zC xs[i] (by have:=po gd xs _ (List.getElem_mem hlt);omega)
  refine kgt ?_
  refine pt (Mat.D xs[i]) ?_
  refine kgt ?_
  exact ab (i+1,ds.set i (Mat.D xs[i])) ⟨hlt,gJ hlt hd⟩ (by show _ - (i+1)<_ - i;omega)
 rw [i9 (by omega) hd]
 refine kgt ?_
 exact gK (hp:=.cons (.k rfl rfl) .nil)
theorem AD (x:Trc) (hx:sA x≤1048576):FnO Tryz.prog 13 [Trc.D x] [2] [.tk (.own (.l 1 (x.rules.map D.i)) none none),.tk (.own (.l 2 (x.ms.map Mat.D)) none none)]:=by
 have hww:sA x=(x.rules).length+wtL gd x.ms:=rfl
 have frules:=jV x.rules (by omega)
 have fms:=wx x.ms (by omega)
 refine dp Tryz.func13 (fun hw W0=>?_)
 refine kgt ?_
 exact gK (hp:=.cons (.k rfl rfl) (.cons (.k rfl rfl) (.nil)))
end Go.Proofs.YtacafmejcdgboaaGreatDoor
namespace Go.Proofs.YtacafmejcdgboaaGreatDoor
open Go.RowKit
set_option linter.unusedVariables false
set_option maxRecDepth 100000
attribute [local irreducible] wtL
theorem na {sig:List Ctl} {rs:List Rul}:∀(l:List (Int × Mat)) (b:Big) (i:Nat),dN sig b=true→dN sig (qy sig rs l b i).1=true:=by
 intro l
 induction l with
 | nil=>intro b i h;exact h
 | cons p l ih=>
  intro b i h
  obtain ⟨k,m⟩:=p
  unfold qy
  split
  ·rename_i hs
   unfold zb at hs
   simp only [Bool.and_eq_true] at hs
   exact ih _ _ (kP hs.2.2.2)
  ·exact h
end Go.Proofs.YtacafmejcdgboaaGreatDoor
namespace Go.Proofs.YtacafmejcdgboaaGreatDoor
open Go.RowKit
set_option linter.unusedVariables false
set_option linter.unusedSimpArgs false
set_option maxRecDepth 100000
set_option maxHeartbeats 4000000
attribute [local irreducible] aD Der At
def trL (a b:Big):Nat→List Int→List (List Int)
 | 0,ns=>if (gm a b ns).2 then [ns] else []
 | n+1,ns=>(List.range b.nodes.length).flatMap fun m=>if qu a b ns m then trL a b n (ns++[(m:Int)]) else []
theorem BD {a b:Big}:∀(n:Nat) (ns:List Int),(oC a b n ns).filter (fun xs=>(gm a b xs).2)=trL a b n ns:=by
 intro n
 induction n with
 | zero=>
  intro ns
  show List.filter _ [ns]=if (gm a b ns).2 then [ns] else []
  by_cases h:(gm a b ns).2=true
  ·rw [if_pos h,List.filter_cons_of_pos (by exact h)];rfl
  ·rw [if_neg h,List.filter_cons_of_neg (by exact h)];rfl
 | succ n ih=>
  intro ns
  unfold trL oC
  refine nq _ _ _ _ (fun m _=>?_)
  split
  ·exact ih _
  ·rfl
def AX (a b:Big) (n:Nat) (ns:List Int) (k:Nat):List (List Int):=(List.range k).flatMap fun m=>if qu a b ns m then trL a b n (ns++[(m:Int)]) else []
theorem Ag (a b:Big) (n:Nat) (ns:List Int) (k:Nat):AX a b n ns (k+1)=AX a b n ns k++(if qu a b ns k then trL a b n (ns++[(k:Int)]) else []):=by unfold AX;rw [List.range_succ,List.flatMap_append];simp
theorem oE {sig:List Ctl} {a b:Big} (ha:aw sig a=true) (hb:aw sig b=true) (hnn:a.nodes.length=b.nodes.length) {g0:Nat} {Q:List (List Int)→WP} {G:List (List Int)→Bool} {K:List (List Int)→Prop} (hY:∀xs (m:List Int),K xs→m.length≤1000→FnY Tryz.prog g0 [DI m] (Q xs) (Q (xs++[m])) (G (xs++[m]))) (hK:∀xs m,G (xs++[m])=true→K (xs++[m])):∀(n:Nat) (ns:List Int) (xs:List (List Int)),ns.length+n=a.nodes.length→C6 a b ns→K xs →
 FnY Tryz.prog 176 [a.D,b.D,DI ns] (xl g0 (Q xs)) (xl g0 (Q (lG G xs (trL a b n ns)).1)) (lG G xs (trL a b n ns)).2:=by
 have h0:=aC ha
 have g0':=aC hb
 intro n
 induction n with
 | zero=>
  intro ns xs hl hL hK0
  have f1:=ze (⟨ha,hb,hnn,hL,by omega⟩:D0 sig a b ns)
  have hdef:trL a b 0 ns=if (gm a b ns).2 then [ns] else []:=rfl
  refine vN Tryz.func176 (fun hw W0 v=>?_)
  refine kgo ?_
  refine bo (fun h=>?_) (fun h=>?_)
  rotate_left
  ·omega
  refine kgo ?_
  cases h3:(gm a b ns).2
  ·rw [hdef,h3]
   refine kgo ?_
   exact AM
  ·rw [hdef,h3,if_pos rfl]
   rw [show lG G xs [ns]=(xs++[ns],G (xs++[ns])) from by
    show (if G (xs++[ns]) then (xs++[ns],true) else (xs++[ns],false))=_
    cases G (xs++[ns]) <;> rfl]
   refine kgo ?_
   refine E8 (ds:=[DI ns]) ?_ rfl (hY xs ns hK0 (by omega))
   refine kgo ?_
   exact AM
 | succ n ih=>
  intro ns xs hl hL hK0
  have hall:trL a b (n+1) ns=AX a b n ns b.nodes.length:=rfl
  have hrl:ns.length<a.nodes.length:=by omega
  have hup:=gN ha ns.length hrl
  have f0:=FO
  refine vN Tryz.func176 (fun hw W0 v=>?_)
  refine kgo ?_
  refine bo (fun h=>?_) (fun h=>?_)
  ·omega
  refine kgo ?_
  generalize hpv:(a.nodes[ns.length]).parent=pv at *
  have hfit:∀(i:Nat) (q:Int),(hi:i<b.nodes.length)→iw ns pv=q→qu a b ns i=(!eq ns i && (decide ((b.nodes[i]).control=(a.nodes[ns.length]).control) && decide ((b.nodes[i]).parent=q))):=fun i q hi hq=>by
   unfold qu
   rw [al a _ hrl,al b i hi,hpv,hq]
   congr 2 <;> exact decide_eq_decide.2 eq_comm
  refine bo (fun hp=>?_) (fun hp=>?_)
  have hp0:0≤pv∧pv<(ns.length:Int):=⟨hp,hup.2⟩
  refine kgo ?_
  obtain ⟨q,hq⟩:∃q,q=atI ns pv:=⟨_,rfl⟩
  have hq2:iw ns pv=q:=by rw [hq];unfold iw;rw [if_neg (by omega)]
  rw [← hq]
  clear hp hp0 hq
  rotate_left
  refine kgo ?_
  obtain ⟨q,hq⟩:∃q,q=pv:=⟨_,rfl⟩
  have hq2:iw ns pv=q:=by rw [hq];unfold iw;rw [if_pos (by omega)]
  rw [← hq]
  clear hp hq
  all_goals
   refine aj [2,3,4,5,9,12,46,47] (fun x:Nat × List (List Int)=>x.1≤b.nodes.length∧K x.2∧lG G xs (AX a b n ns x.1)=(x.2,true)) (fun x=>b.nodes.length - x.1) (fun x=>[(48,.sy (.d (.i x.1))),(20000,.tk (.abs (xl g0 (Q x.2)) (some v)))]) (0,xs) ⟨Nat.zero_le _,hK0,rfl⟩ (fun x hx'=>?_)
   obtain ⟨i,cur⟩:=x
   obtain ⟨hi,hKc,hrun⟩:=hx'
   dsimp only at hi hKc hrun ⊢
   refine kgo ?_
   refine bo (fun h=>?_) (fun h=>?_)
   rotate_left
   ·obtain rfl:i=b.nodes.length:=by omega
    rw [hall,hrun]
    refine kgo ?_
    exact AM
   have hlt:i<b.nodes.length:=by omega
   have f1:=dU ns i
   have hcd:=hfit i q hlt hq2
   have hsucc:=Ag a b n ns i
   have hno:qu a b ns i=false→lG G xs (AX a b n ns (i+1))=(cur,true):=fun e=>by rw [hsucc,e];simpa using hrun
   refine kgo ?_
   cases hc:decide ((b.nodes[i]).control=(a.nodes[ns.length]).control)
   ·rw [hc] at hcd
    refine kgo ?_
    (repeat refine eS ?_)
    refine kgo ?_
    exact ab (i+1,cur) ⟨hlt,hKc,hno (by rw [hcd];simp)⟩ (by show _ - (i+1)<_ - i;omega)
   refine kgo ?_
   cases h5:decide ((b.nodes[i]).parent=q)
   ·rw [h5] at hcd
    refine kgo ?_
    (repeat refine eS ?_)
    refine kgo ?_
    exact ab (i+1,cur) ⟨hlt,hKc,hno (by rw [hcd];simp)⟩ (by show _ - (i+1)<_ - i;omega)
   refine kgo ?_
   cases h2:eq ns i
   rotate_left
   ·rw [h2] at hcd
    refine kgo ?_
    exact ab (i+1,cur) ⟨hlt,hKc,hno (by rw [hcd];simp)⟩ (by show _ - (i+1)<_ - i;omega)
   have hcan:qu a b ns i=true:=by rw [hcd,hc,h5,h2];rfl
   have hdi:DI (ns++[(i:Int)])=D.l 1 (ns.map D.i++[D.i i]):=congrArg (D.l 1) List.map_append
   have f3:=ih (ns++[(i:Int)]) cur (by rw [List.length_append,List.length_singleton];omega) (hL.snoc hlt hcan) hKc
   rw [hdi] at f3
   have hyes:lG G xs (AX a b n ns (i+1))=lG G cur (trL a b n (ns++[(i:Int)])):=by rw [hsucc,hcan,if_pos rfl,vV,hrun,if_pos rfl]
   have hend:(lG G cur (trL a b n (ns++[(i:Int)]))).2=false→lG G xs (trL a b (n+1) ns)=lG G cur (trL a b n (ns++[(i:Int)])):=fun h2=>by
    obtain ⟨t,ht⟩:=vt (fun m:Nat=>if qu a b ns m then trL a b n (ns++[(m:Int)]) else []) (i+1) (b.nodes.length - (i+1))
    rw [show i+1+(b.nodes.length - (i+1))=b.nodes.length by omega] at ht
    have ht':AX a b n ns b.nodes.length=AX a b n ns (i+1)++t:=ht
    rw [hall,ht',vV,hyes,h2,if_neg Bool.false_ne_true]
   have hkk:(lG G cur (trL a b n (ns++[(i:Int)]))).2=true→K (lG G cur (trL a b n (ns++[(i:Int)]))).1:=F5 hK _ _ hKc
   generalize lG G cur (trL a b n (ns++[(i:Int)]))=R at *
   obtain ⟨R1,R2⟩:=R
   refine kgo ?_
   refine GH f0 ?_
   refine kgo ?_
   refine sFz 79 ?_
   refine FX ?_
   refine kgo ?_
   cases R2
   ·rw [hend rfl]
    refine kgo ?_
    exact AM
   refine kgo ?_
   exact ab (i+1,R1) ⟨hlt,hkk rfl,hyes⟩ (by show _ - (i+1)<_ - i;omega)
theorem Br (old m:List Int) (hm:m.length≤1000):FnY Tryz.prog 177 [DI m] (rl 1 3 (old.map .i)) (rl 1 3 (m.map .i)) false:=by
 have f1:=jR m hm
 refine vN Tryz.func177 (fun hw W0 v=>?_)
 refine vO 1 20000 20001 ?_
 refine kgo ?_
 refine BC ?_
 refine kgo ?_
 refine EX 1 20000 10005 ?_
 exact AM
def oY (a b:Big):List Int:=if a.nodes.length=b.nodes.length then (trL a b a.nodes.length []).headD [] else []
theorem Fy (a b:Big):xR a b = !(trL a b a.nodes.length []).isEmpty:=by rw [BI,BD]
theorem Eo:∀(l:List (List Int)),lG (fun _=>false) [] l=(l.take 1,l.isEmpty):=by
 intro l
 cases l <;> rfl
theorem k8 {sig:List Ctl} {a b:Big} (ha:aw sig a=true) (hb:aw sig b=true):FnD Tryz.prog 106 [a.D,b.D] (.tp [DI (oY a b),.b (xR a b)]):=by
 have h0:=aC ha
 have g0:=aC hb
 refine ah Tryz.func106 (fun hw W0=>?_)
 refine kgo ?_
 refine kR (fun h=>?_) (fun h=>?_)
 ·rw [show xR a b=false by unfold xR eh;rw [decide_eq_false h];simp,show oY a b = [] by unfold oY;rw [if_neg (by omega)]]
  refine kgo ?_
  exact em
 have hnn:a.nodes.length=b.nodes.length:=by omega
 have f0:=oE ha hb hnn (g0:=177) (Q:=fun xs=>rl 1 3 ((xs.getLastD []).map .i)) (G:=fun _=>false) (K:=fun _=>True) (fun xs m _ hm=>by
  have:=Br (xs.getLastD []) m hm
  rwa [show (xs++[m]).getLastD []=m by simp]) (fun xs m h=>by cases h) a.nodes.length [] [] (by simp) (C6.nil a b) trivial
 rw [Eo] at f0
 have e1:((trL a b a.nodes.length []).take 1).getLastD []=oY a b:=by
  unfold oY
  rw [if_pos hnn]
  cases trL a b a.nodes.length [] <;> rfl
 dsimp only at f0
 rw [e1] at f0
 have f1:FnY Tryz.prog 176 [a.D,b.D,.n 1] (xl 177 (rl 1 3 [])) (xl 177 (rl 1 3 ((oY a b).map .i))) (trL a b a.nodes.length []).isEmpty:=f0.arg (fun w F vs hv=>by
  obtain ⟨v1,t1,rfl,h1,v2,t2,rfl,h2,v3,t3,rfl,h3,h4⟩:=hv
  exact ⟨v1,_,rfl,h1,v2,_,rfl,h2,v3,_,rfl,Ad h3,h4⟩)
 clear f0 e1
 rw [Fy]
 generalize (trL a b a.nodes.length []).isEmpty=e at *
 refine bM ?_
 refine bp ?_
 refine eA ?_
 refine eR ?_
 refine xJ ?_
 refine eH (bp ?_)
 refine l9 10006 0 20002 3 ?_
 refine GO 10006 (fun u=>?_)
 refine GS 6 10006 20002 ?_
 refine kgo ?_
 refine Fa ?_
 refine Ec 10006 (fun σ' a w c hc hk=>pu hc _ _ rfl hk) ?_
 refine xJ ?_
 refine eH (bp ?_)
 refine vO 6 10006 20001 ?_
 refine kgo ?_
 refine jm ?_
 repeat (first|(refine bZ ?_;first|refine aO ?_|refine b9 ?_|refine bf ?_|refine aX ?_|refine aQ ?_|refine aW ?_|refine aV ?_|refine aA ?_|refine bc ?_)|(refine fb ?_;first|refine bO ?_|refine fg ?_|refine bU ?_|refine cd ?_)|(refine fp ?_;first|refine dv (fun _=>?_)|refine ci ?_|refine cr ?_|refine bE ?_|refine bR ?_|refine bX ?_)|(refine ft ?_;first|refine b8 ?_|refine eG ?_|refine ca ?_|refine bI ?_|refine cb ?_|refine b7 ?_)|(refine fx ?_;first|refine fq ?_|refine eZ ?_|refine cm ?_|refine bQ ?_|refine fu ?_|refine aR ?_|refine bd ?_)|(refine bS ?_;first|refine bh ?_|refine bW ?_)|(refine fc ?_;first|refine fA (d:=4) ?_|refine cf ?_|refine ck ?_|refine fj ?_)|(refine bY ?_;first|refine cg ?_|refine be ?_|refine aZ ?_|refine bj ?_|refine aP ?_|refine aY ?_)|(refine fm ?_;first|refine co ?_|refine eX ?_|refine aU ?_|refine bg ?_)|(refine aS ?_;first|refine av _ ?_|refine ba ?_|refine aB ?_|refine ax ?_|refine az ?_)|(refine ff ?_;first|refine cq ?_|refine bJ ?_|refine cj ?_)|(refine gOp ?_;first|refine fd ?_|refine fa ?_|refine aT ?_|refine fl ?_|refine fh ?_|refine b6 ?_|refine aN ?_|refine bT ?_|refine fw ?_|refine bK ?_|refine ct ?_|refine bk ?_|refine ay ?_|refine ch ?_|refine sNo ?_|refine eS ?_)|refine eA ?_|refine eR ?_|refine fe ?_|refine bl ?_|refine bM ?_|refine bz ?_|refine fC ?_|refine fB ?_|refine fo ?_|refine eH ?_|refine bV ?_|refine bp ?_|refine au ?_|refine bm ?_|refine cw ?_|refine bA ?_|refine aBlkX ?_|refine cy ?_)
 exact em
theorem nT {sig:List Ctl} {a b:Big} (ha:aw sig a=true) (hb:aw sig b=true):FnD Tryz.prog 50 [a.D,b.D] (.d (.b (xR a b))):=by
 have f1:=k8 ha hb
 refine ah Tryz.func50 (fun hw W0=>?_)
 refine kgo ?_
 exact ar
def m7 (sig:List Ctl) (rs:List Rul) (a:Big) (t:Trc) (g:Big):Bool × Bool:=if gh sig rs a t && dN sig g then (decide (((kk sig rs a t).2:Int)=t.rules.length) && xR (kk sig rs a t).1 g,true) else (false,false)
theorem lY (sig:List Ctl) (rs:List Rul) (a:Big) (t:Trc) (g:Big) (hr:∀r∈rs,r.redex.inner.length≤1048576∧r.reactum.inner.length≤1048576) (ha:a.inner.length≤1048576) (hg:g.inner.length≤1048576):FnD Tryz.prog 9 [.l 3 (sig.map Ctl.D),.l 13 (rs.map Rul.D),a.D,t.D,g.D] (.tp [.b (m7 sig rs a t g).1,.b (m7 sig rs a t g).2]):=by
 have f1:=wU sig rs a t hr ha
 have f2:=rH sig g hg
 refine ah Tryz.func9 (fun hw W0=>?_)
 unfold m7
 refine kgo ?_
 cases h1:gh sig rs a t
 ·refine kgo ?_
  exact em
 refine kgo ?_
 cases h2:dN sig g
 ·refine kgo ?_
  exact em
 have h1':=h1
 unfold gh at h1'
 simp only [Bool.and_eq_true,decide_eq_true_eq] at h1'
 obtain ⟨h3,h4,h5,h6⟩:=h1'
 have f3:=BP t h3 h4 (by omega) (by omega)
 have hB:dN sig (kk sig rs a t).1=true:=na _ _ _ h4
 generalize kk sig rs a t=q at *
 obtain ⟨B,m⟩:=q
 have f4:=Es (df hB) (df h2)
 refine kgo ?_
 cases h7:decide ((m:Int)=t.rules.length)
 ·refine kgo ?_
  exact em
 refine kgo ?_
 exact em
theorem FnO.toT2 {P:Program} {f n:Nat} {xs:List D} {ps:List Pt} {r r2:D} (h:FnO P f xs [n+1,0,0] (ps++[.d r,.d r2])) (hn:ps.length=n+1:=by rfl) (ht:((ps.map Pt.dat).all fun r=>!isT r)=true:=by rfl):FnD P f xs (.tp [.t (ps.map Pt.dat),r,r2]):=⟨h.enter,fun F w vs hv hF=>(h.calls F w vs hv hF).mono (by
 rintro e' w' ⟨us,T,rfl,hX,hl,hT,_,hel⟩
 have hd:=nP (F:=F) hT (ps++[.d r,.d r2]) us 0 hl (fun i p hp=>by rw [Nat.zero_add];exact hel i p hp)
 have hlen:us.length=n+3:=by rw [hl];simp [hn]
 rw [List.map_append] at hd
 obtain ⟨h1,h2⟩:=uL (n+1) _ _ hd
 rw [List.take_append_of_le_length (by simp [hn]),List.take_of_length_le (by simp [hn])] at h1
 rw [List.drop_append_of_le_length (by simp [hn]),List.drop_of_length_le (by simp [hn])] at h2
 obtain ⟨v,t,e1,h3,v2,t2,rfl,h4,h5⟩:=h2
 cases (show t2 = [] from h5)
 refine ⟨_,rfl,hX,?_⟩
 have:mM [n+1,0,0] us = [.agg (us.take (n+1)).toArray,v,v2]:=by
  unfold mM mM mM mM
  rw [e1];rfl
 rw [this]
 exact ⟨_,rfl,_,_,rfl,⟨_,rfl,qn _ _ ht h1⟩,_,_,rfl,h3,_,_,rfl,h4,rfl⟩)⟩
theorem pw (sig:List Ctl) (rs:List Rul) (a:Big) (t:Trc) (g:Big) (hr:∀r∈rs,r.redex.inner.length≤1048576∧r.reactum.inner.length≤1048576) (ha:a.inner.length≤1048576) (hg:g.inner.length≤1048576):FnD Tryz.prog 14 [.l 3 (sig.map Ctl.D),.l 13 (rs.map Rul.D),a.D,t.D,g.D] (.tp [.b (m7 sig rs a t g).1,.b (m7 sig rs a t g).2]):=by
 have f1:FnD Tryz.prog 48 [.l 3 (sig.map Ctl.D),.l 13 (rs.map Rul.D),a.D,t.D] (.tp [(g7 sig rs a t).1.D,.i (g7 sig rs a t).2.1,.b (g7 sig rs a t).2.2]):=FnO.toT2 (n:=5) (ui sig rs a t hr ha)
 have f2:=qY sig g hg
 have hno:gh sig rs a t=false→g7 sig rs a t=(ew,0,false):=fun h=>by unfold g7;rw [h];rfl
 have hyes:gh sig rs a t=true→g7 sig rs a t=((kk sig rs a t).1,((kk sig rs a t).2:Int),true):=fun h=>by unfold g7;rw [h];rfl
 refine ah Tryz.func14 (fun hw W0=>?_)
 unfold m7
 cases h1:gh sig rs a t
 ·rw [hno h1] at f1
  refine kgo ?_
  exact em
 rw [hyes h1] at f1
 unfold gh at h1
 simp only [Bool.and_eq_true,decide_eq_true_eq] at h1
 have hB:dN sig (kk sig rs a t).1=true:=na _ _ _ h1.2.1
 clear hno hyes
 generalize kk sig rs a t=q at *
 obtain ⟨B,m⟩:=q
 refine kgo ?_
 cases h2:dN sig g
 ·refine kgo ?_
  exact em
 have f4:=nT (df hB) (df h2)
 refine kgo ?_
 cases h7:decide ((m:Int)=t.rules.length)
 ·refine kgo ?_
  exact em
 refine kgo ?_
 exact em
end Go.Proofs.YtacafmejcdgboaaGreatDoor
