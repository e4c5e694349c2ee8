/-
  Proved facts that the law leans on.
-/
import Derived.Test.YtacafmejcdgboaaGreatDoorZG11
import Derived.Test.YtacafmejcdgboaaGreatDoorZG12
import Derived.Test.YtacafmejcdgboaaGreatDoorZG13
import Derived.Test.YtacafmejcdgboaaGreatDoorZG14
namespace Go.Proofs.YtacafmejcdgboaaGreatDoor
open Go.RowKit
set_option linter.unusedVariables false
set_option maxRecDepth 100000
set_option maxHeartbeats 2000000
attribute [local irreducible] ar Der At jr mkL cnL lj
def dN (s:Stp):Nat:=1+(cnL c1 s.mat.nodes+cnL c1 s.mat.roots)+ig s.res
def lS (k:Int) (s:Stp):Stp:=⟨k,⟨mkL mkI c1 (k+1) s.mat.nodes,mkL mkI c1 (k+1+cnL c1 s.mat.nodes) s.mat.roots⟩,wW (k+1+cnL c1 s.mat.nodes+cnL c1 s.mat.roots) s.res⟩
def Jn (s:Stp):Nat:=xg s.mat+kU s.res
theorem Df (x:Stp):FnD Tryz.prog 72 [Stp.D x,Stp.D x] (.d (.b true)):=by
 have fmat:=AO x.mat
 have fres:=gX x.res
 refine ah Tryz.func72 (fun hw W0=>?_)
 refine kgo ?_
 refine jE (fun h=>absurd rfl h) (fun _=>?_)
 refine kgo ?_
 exact aq
theorem o5 (xs:List Stp):FnD Tryz.prog 23 [.l 9 (xs.map Stp.D),.l 9 (xs.map Stp.D)] (.d (.b true)):=by
 refine ah Tryz.func23 (fun hw W0=>?_)
 have hl:=(wfM hw.1).1
 refine kgo ?_
 refine jE (fun h=>absurd rfl h) (fun _=>?_)
 refine kgo ?_
 refine ai [0,1] (fun i:Nat=>i≤xs.length) (fun i=>xs.length - i) (fun i=>[(5,.sy (.d (.i i)))]) 0 (Nat.zero_le _) (fun i hi=>?_)
 refine kgo ?_
 refine aL (fun h=>?_) (fun h=>?_)
 ·have hlt:i<xs.length:=by omega
  have f:=Df xs[i]
  refine kgo ?_
  exact af (i+1) hlt (by show _ - (i+1)<_ - i;omega)
 refine kgo ?_
 exact aq
theorem vF (xs:List Stp) (k:Int) (h0:0≤k) (h1:k+cnL dN xs≤1000000000):FnM Tryz.prog 28 (.l 9 (xs.map Stp.D)) (.l 9 ((mkL lS dN k xs).map Stp.D)) k (k+cnL dN xs):=by
 refine nz Tryz.func28 (DH h0 (by omega)) (fun W0 v M hM hw=>?_)
 have hw':xs.length≤9223372036854775807:=by rw [← List.length_map];exact hw
 refine kgm ?_
 refine ai [0,20000] (fun x:Nat × Int × List D=>x.1≤xs.length∧x.2.1=k+cnL dN (xs.take x.1)∧x.2.2=(lj lS dN x.1 k xs).map Stp.D) (fun x=>xs.length - x.1) (fun x=>[(1,.sy (.d (.i x.2.1))),(5,.sy (.d (.i x.1))),(20000,.tk (.own (.l 9 x.2.2) none (some (v,M))))]) (0,k,xs.map Stp.D) ⟨Nat.zero_le _,by simp [cnL],by rw [gz]⟩ (fun x hx=>?_)
 obtain ⟨i,K,ds⟩:=x
 obtain ⟨hi,hK,hd⟩:=hx
 dsimp only at hi hK hd ⊢
 have hl:=tc hd
 have hc:=aH dN xs i
 refine kgm ?_
 refine aL (fun h=>?_) (fun h=>?_)
 ·have hlt:i<xs.length:=by omega
  have hlt':i<ds.length:=by omega
  have hct:=ef dN xs i hlt
  have hc':=aH dN xs (i+1)
  have hcx:dN xs[i]=3+cnL c1 xs[i].mat.nodes+cnL c1 xs[i].mat.roots+cnL cNd xs[i].res.nodes+cnL c1 xs[i].res.sites+cnL c1 xs[i].res.outer+cnL c2 xs[i].res.inner:=by first|rfl|(simp only [dN,ig,kU];omega)|(simp only [xg];omega)
  have hKb:K+dN xs[i]≤1000000000:=by omega
  have hK0:0≤K:=by omega

  have f1:=er xs[i].mat.nodes (K+1) (by omega) (by omega)
  have f2:=er xs[i].mat.roots (K+1+(cnL c1 xs[i].mat.nodes:Nat)) (by omega) (by omega)
  have f4:=gY xs[i].res.nodes (K+1+(cnL c1 xs[i].mat.nodes:Nat)+(cnL c1 xs[i].mat.roots:Nat)+1) (by omega) (by omega)
  have f5:=er xs[i].res.sites (K+1+(cnL c1 xs[i].mat.nodes:Nat)+(cnL c1 xs[i].mat.roots:Nat)+1+(cnL cNd xs[i].res.nodes:Nat)) (by omega) (by omega)
  have f7:=fA xs[i].res.outer (K+1+(cnL c1 xs[i].mat.nodes:Nat)+(cnL c1 xs[i].mat.roots:Nat)+1+(cnL cNd xs[i].res.nodes:Nat)+(cnL c1 xs[i].res.sites:Nat)+1) (by omega) (by omega)
  have f8:=ij xs[i].res.inner (K+1+(cnL c1 xs[i].mat.nodes:Nat)+(cnL c1 xs[i].mat.roots:Nat)+1+(cnL cNd xs[i].res.nodes:Nat)+(cnL c1 xs[i].res.sites:Nat)+1+(cnL c1 xs[i].res.outer:Nat)) (by omega) (by omega)
  refine jK 20000 (congrArg (fun d=>Tk.own (.l 9 d) none (some (v,M))) (su hlt hd)) ?_
  refine kgm ?_
  refine jK 20000 (t':=.own (.l 9 (ds.set i (Stp.D (⟨K,⟨xs[i].mat.nodes,xs[i].mat.roots⟩,⟨xs[i].res.roots,xs[i].res.nodes,xs[i].res.sites,xs[i].res.edges,xs[i].res.outer,xs[i].res.inner⟩⟩:Stp)))) none (some (v,M))) rfl ?_
  refine iP 20000 1 (fun u=>?_)
  refine cN ?_
  refine kgm ?_
  refine jK 20000 (t':=.own (.l 9 (ds.set i (Stp.D (⟨K,⟨mkL mkI c1 (K+1) xs[i].mat.nodes,xs[i].mat.roots⟩,⟨xs[i].res.roots,xs[i].res.nodes,xs[i].res.sites,xs[i].res.edges,xs[i].res.outer,xs[i].res.inner⟩⟩:Stp)))) none (some (v,M))) rfl ?_
  refine iP 20000 2 (fun u=>?_)
  refine cN ?_
  refine kgr ?_
  refine df (aN ?_)
  refine jK 20000 (t':=.own (.l 9 (ds.set i (Stp.D (⟨K,⟨mkL mkI c1 (K+1) xs[i].mat.nodes,mkL mkI c1 (K+1+(cnL c1 xs[i].mat.nodes:Nat)) xs[i].mat.roots⟩,⟨xs[i].res.roots,xs[i].res.nodes,xs[i].res.sites,xs[i].res.edges,xs[i].res.outer,xs[i].res.inner⟩⟩:Stp)))) none (some (v,M))) rfl ?_
  refine kgm ?_
  try (refine aI ?_;refine gj (f:=3) ?_;refine kgm ?_)
  refine jK 20000 (t':=.own (.l 9 (ds.set i (Stp.D (⟨K,⟨mkL mkI c1 (K+1) xs[i].mat.nodes,mkL mkI c1 (K+1+(cnL c1 xs[i].mat.nodes:Nat)) xs[i].mat.roots⟩,⟨K+1+(cnL c1 xs[i].mat.nodes:Nat)+(cnL c1 xs[i].mat.roots:Nat),xs[i].res.nodes,xs[i].res.sites,xs[i].res.edges,xs[i].res.outer,xs[i].res.inner⟩⟩:Stp)))) none (some (v,M))) rfl ?_
  refine iP 20000 4 (fun u=>?_)
  refine cN ?_
  refine kgm ?_
  refine jK 20000 (t':=.own (.l 9 (ds.set i (Stp.D (⟨K,⟨mkL mkI c1 (K+1) xs[i].mat.nodes,mkL mkI c1 (K+1+(cnL c1 xs[i].mat.nodes:Nat)) xs[i].mat.roots⟩,⟨K+1+(cnL c1 xs[i].mat.nodes:Nat)+(cnL c1 xs[i].mat.roots:Nat),mkL rM cNd (K+1+(cnL c1 xs[i].mat.nodes:Nat)+(cnL c1 xs[i].mat.roots:Nat)+1) xs[i].res.nodes,xs[i].res.sites,xs[i].res.edges,xs[i].res.outer,xs[i].res.inner⟩⟩:Stp)))) none (some (v,M))) rfl ?_
  refine iP 20000 5 (fun u=>?_)
  refine cN ?_
  refine kgr ?_
  refine df (aN ?_)
  refine jK 20000 (t':=.own (.l 9 (ds.set i (Stp.D (⟨K,⟨mkL mkI c1 (K+1) xs[i].mat.nodes,mkL mkI c1 (K+1+(cnL c1 xs[i].mat.nodes:Nat)) xs[i].mat.roots⟩,⟨K+1+(cnL c1 xs[i].mat.nodes:Nat)+(cnL c1 xs[i].mat.roots:Nat),mkL rM cNd (K+1+(cnL c1 xs[i].mat.nodes:Nat)+(cnL c1 xs[i].mat.roots:Nat)+1) xs[i].res.nodes,mkL mkI c1 (K+1+(cnL c1 xs[i].mat.nodes:Nat)+(cnL c1 xs[i].mat.roots:Nat)+1+(cnL cNd xs[i].res.nodes:Nat)) xs[i].res.sites,xs[i].res.edges,xs[i].res.outer,xs[i].res.inner⟩⟩:Stp)))) none (some (v,M))) rfl ?_
  refine kgm ?_
  try (refine aI ?_;refine gj (f:=6) ?_;refine kgm ?_)
  refine jK 20000 (t':=.own (.l 9 (ds.set i (Stp.D (⟨K,⟨mkL mkI c1 (K+1) xs[i].mat.nodes,mkL mkI c1 (K+1+(cnL c1 xs[i].mat.nodes:Nat)) xs[i].mat.roots⟩,⟨K+1+(cnL c1 xs[i].mat.nodes:Nat)+(cnL c1 xs[i].mat.roots:Nat),mkL rM cNd (K+1+(cnL c1 xs[i].mat.nodes:Nat)+(cnL c1 xs[i].mat.roots:Nat)+1) xs[i].res.nodes,mkL mkI c1 (K+1+(cnL c1 xs[i].mat.nodes:Nat)+(cnL c1 xs[i].mat.roots:Nat)+1+(cnL cNd xs[i].res.nodes:Nat)) xs[i].res.sites,K+1+(cnL c1 xs[i].mat.nodes:Nat)+(cnL c1 xs[i].mat.roots:Nat)+1+(cnL cNd xs[i].res.nodes:Nat)+(cnL c1 xs[i].res.sites:Nat),xs[i].res.outer,xs[i].res.inner⟩⟩:Stp)))) none (some (v,M))) rfl ?_
  refine iP 20000 7 (fun u=>?_)
  refine cN ?_
  refine kgm ?_
  refine jK 20000 (t':=.own (.l 9 (ds.set i (Stp.D (⟨K,⟨mkL mkI c1 (K+1) xs[i].mat.nodes,mkL mkI c1 (K+1+(cnL c1 xs[i].mat.nodes:Nat)) xs[i].mat.roots⟩,⟨K+1+(cnL c1 xs[i].mat.nodes:Nat)+(cnL c1 xs[i].mat.roots:Nat),mkL rM cNd (K+1+(cnL c1 xs[i].mat.nodes:Nat)+(cnL c1 xs[i].mat.roots:Nat)+1) xs[i].res.nodes,mkL mkI c1 (K+1+(cnL c1 xs[i].mat.nodes:Nat)+(cnL c1 xs[i].mat.roots:Nat)+1+(cnL cNd xs[i].res.nodes:Nat)) xs[i].res.sites,K+1+(cnL c1 xs[i].mat.nodes:Nat)+(cnL c1 xs[i].mat.roots:Nat)+1+(cnL cNd xs[i].res.nodes:Nat)+(cnL c1 xs[i].res.sites:Nat),mkL mkS c1 (K+1+(cnL c1 xs[i].mat.nodes:Nat)+(cnL c1 xs[i].mat.roots:Nat)+1+(cnL cNd xs[i].res.nodes:Nat)+(cnL c1 xs[i].res.sites:Nat)+1) xs[i].res.outer,xs[i].res.inner⟩⟩:Stp)))) none (some (v,M))) rfl ?_
  refine iP 20000 8 (fun u=>?_)
  refine cN ?_
  refine kgm ?_
  exact af (i+1,K+1+(cnL c1 xs[i].mat.nodes:Nat)+(cnL c1 xs[i].mat.roots:Nat)+1+(cnL cNd xs[i].res.nodes:Nat)+(cnL c1 xs[i].res.sites:Nat)+1+(cnL c1 xs[i].res.outer:Nat)+(cnL c2 xs[i].res.inner:Nat),ds.set i (Stp.D (lS K xs[i]))) ⟨hlt,by show K+1+(cnL c1 xs[i].mat.nodes:Nat)+(cnL c1 xs[i].mat.roots:Nat)+1+(cnL cNd xs[i].res.nodes:Nat)+(cnL c1 xs[i].res.sites:Nat)+1+(cnL c1 xs[i].res.outer:Nat)+(cnL c2 xs[i].res.inner:Nat)=k+(cnL dN (xs.take (i+1)):Nat);omega,nk hlt hd hK⟩ (by show _ - (i+1)<_ - i;omega)
 have hie:i=xs.length:=by omega
 rw [sk hie hd]
 rw [hie,fZ] at hK
 rw [← hK]
 refine kgm ?_
 exact Ed hM
theorem oZ (xs:List Stp) (k:Int) (h0:0≤k) (h1:k+cnL dN xs≤1000000000):FnD Tryz.prog 29 [.l 9 ((mkL lS dN k xs).map Stp.D),.i k] (.d (.i (k+cnL dN xs))):=by
 have hl:=jl lS dN xs k
 have ha:=fun i h=>tg lS dN i k xs h (by rw [hl];exact h)
 refine ah Tryz.func29 (fun hw W0=>?_)
 have hw':=(wfM hw.1).1
 obtain ⟨ys,hys⟩:∃ys,mkL lS dN k xs=ys:=⟨_,rfl⟩
 simp only [hys] at hl ha hw' ⊢
 refine kgo ?_
 refine ai [0] (fun x:Nat × Int=>x.1≤xs.length∧x.2=k+cnL dN (xs.take x.1)) (fun x=>xs.length - x.1) (fun x=>[(1,.sy (.d (.i x.2))),(5,.sy (.d (.i x.1)))]) (0,k) ⟨Nat.zero_le _,by simp [cnL]⟩ (fun x hx=>?_)
 obtain ⟨i,K⟩:=x
 obtain ⟨hi,hK⟩:=hx
 dsimp only at hi hK ⊢
 have hc:=aH dN xs i
 refine kgo ?_
 refine aL (fun h=>?_) (fun h=>?_)
 ·have hlt:i<xs.length:=by omega
  have hlt':i<ys.length:=by omega
  have hct:=ef dN xs i hlt
  have hc':=aH dN xs (i+1)
  have hcx:dN xs[i]=3+cnL c1 xs[i].mat.nodes+cnL c1 xs[i].mat.roots+cnL cNd xs[i].res.nodes+cnL c1 xs[i].res.sites+cnL c1 xs[i].res.outer+cnL c2 xs[i].res.inner:=by first|rfl|(simp only [dN,ig,kU];omega)|(simp only [xg];omega)
  have hKb:K+dN xs[i]≤1000000000:=by omega
  have hK0:0≤K:=by omega
  have hat:=ha i hlt
  rw [← hK] at hat
  have e0:ys[i].rule=K:=by rw [hat];rfl
  have f1:=kD xs[i].mat.nodes (K+1) (by omega) (by omega)
  rw [show mkL mkI c1 (K+1) xs[i].mat.nodes=ys[i].mat.nodes by rw [hat];rfl] at f1
  have f2:=kD xs[i].mat.roots (K+1+(cnL c1 xs[i].mat.nodes:Nat)) (by omega) (by omega)
  rw [show mkL mkI c1 (K+1+(cnL c1 xs[i].mat.nodes:Nat)) xs[i].mat.roots=ys[i].mat.roots by rw [hat];rfl] at f2
  have e3:ys[i].res.roots=K+1+(cnL c1 xs[i].mat.nodes:Nat)+(cnL c1 xs[i].mat.roots:Nat):=by rw [hat];rfl
  have f4:=uA xs[i].res.nodes (K+1+(cnL c1 xs[i].mat.nodes:Nat)+(cnL c1 xs[i].mat.roots:Nat)+1) (by omega) (by omega)
  rw [show mkL rM cNd (K+1+(cnL c1 xs[i].mat.nodes:Nat)+(cnL c1 xs[i].mat.roots:Nat)+1) xs[i].res.nodes=ys[i].res.nodes by rw [hat];rfl] at f4
  have f5:=kD xs[i].res.sites (K+1+(cnL c1 xs[i].mat.nodes:Nat)+(cnL c1 xs[i].mat.roots:Nat)+1+(cnL cNd xs[i].res.nodes:Nat)) (by omega) (by omega)
  rw [show mkL mkI c1 (K+1+(cnL c1 xs[i].mat.nodes:Nat)+(cnL c1 xs[i].mat.roots:Nat)+1+(cnL cNd xs[i].res.nodes:Nat)) xs[i].res.sites=ys[i].res.sites by rw [hat];rfl] at f5
  have e6:ys[i].res.edges=K+1+(cnL c1 xs[i].mat.nodes:Nat)+(cnL c1 xs[i].mat.roots:Nat)+1+(cnL cNd xs[i].res.nodes:Nat)+(cnL c1 xs[i].res.sites:Nat):=by rw [hat];rfl
  have f7:=qi xs[i].res.outer (K+1+(cnL c1 xs[i].mat.nodes:Nat)+(cnL c1 xs[i].mat.roots:Nat)+1+(cnL cNd xs[i].res.nodes:Nat)+(cnL c1 xs[i].res.sites:Nat)+1) (by omega) (by omega)
  rw [show mkL mkS c1 (K+1+(cnL c1 xs[i].mat.nodes:Nat)+(cnL c1 xs[i].mat.roots:Nat)+1+(cnL cNd xs[i].res.nodes:Nat)+(cnL c1 xs[i].res.sites:Nat)+1) xs[i].res.outer=ys[i].res.outer by rw [hat];rfl] at f7
  have f8:=uh xs[i].res.inner (K+1+(cnL c1 xs[i].mat.nodes:Nat)+(cnL c1 xs[i].mat.roots:Nat)+1+(cnL cNd xs[i].res.nodes:Nat)+(cnL c1 xs[i].res.sites:Nat)+1+(cnL c1 xs[i].res.outer:Nat)) (by omega) (by omega)
  rw [show mkL yT c2 (K+1+(cnL c1 xs[i].mat.nodes:Nat)+(cnL c1 xs[i].mat.roots:Nat)+1+(cnL cNd xs[i].res.nodes:Nat)+(cnL c1 xs[i].res.sites:Nat)+1+(cnL c1 xs[i].res.outer:Nat)) xs[i].res.inner=ys[i].res.inner by rw [hat];rfl] at f8
  refine kgo ?_
  rw [e0]
  refine jE (fun h=>absurd rfl h) (fun _=>?_)
  refine kgo ?_
  refine aL (fun h=>?_) (fun _=>?_)
  ·omega
  refine kgo ?_
  refine aL (fun h=>?_) (fun _=>?_)
  ·omega
  refine kgo ?_
  rw [e3]
  refine jE (fun h=>absurd rfl h) (fun _=>?_)
  refine kgo ?_
  refine aL (fun h=>?_) (fun _=>?_)
  ·omega
  refine kgo ?_
  refine aL (fun h=>?_) (fun _=>?_)
  ·omega
  refine kgo ?_
  rw [e6]
  refine jE (fun h=>absurd rfl h) (fun _=>?_)
  refine kgo ?_
  refine aL (fun h=>?_) (fun _=>?_)
  ·omega
  refine kgo ?_
  refine aL (fun h=>?_) (fun _=>?_)
  ·omega
  refine kgo ?_
  exact af (i+1,K+1+(cnL c1 xs[i].mat.nodes:Nat)+(cnL c1 xs[i].mat.roots:Nat)+1+(cnL cNd xs[i].res.nodes:Nat)+(cnL c1 xs[i].res.sites:Nat)+1+(cnL c1 xs[i].res.outer:Nat)+(cnL c2 xs[i].res.inner:Nat)) ⟨hlt,by show K+1+(cnL c1 xs[i].mat.nodes:Nat)+(cnL c1 xs[i].mat.roots:Nat)+1+(cnL cNd xs[i].res.nodes:Nat)+(cnL c1 xs[i].res.sites:Nat)+1+(cnL c1 xs[i].res.outer:Nat)+(cnL c2 xs[i].res.inner:Nat)=k+(cnL dN (xs.take (i+1)):Nat);omega⟩ (by show _ - (i+1)<_ - i;omega)
 have hie:i=xs.length:=by omega
 rw [hie,fZ] at hK
 rw [← hK]
 refine kgo ?_
 exact aq
theorem vR (z e:Nat) (ds:List D) (b:Bool):∀p∈[Pt.tk (.grw z e ds),.d (.b b)],F9 p:=fun p hp=>by
 simp only [List.mem_cons,List.not_mem_nil,or_false] at hp
 rcases hp with rfl|rfl <;> first|trivial|rfl
def vt (sig:List Ctl) (s:Stp):Prop:=s.mat.nodes.length≤1000∧s.mat.roots.length≤1000∧fS sig s.res=true
theorem za {sig:List Ctl} {r a:Big} {m:Mat} (hr:aF sig r=true) (h:dD r a m=true):m.nodes.length≤1000∧m.roots.length≤1000:=by
 have h1:=(iQ (cF h).1).len
 have h2:=(bu hr).nodes
 have h3:=i1 (rs:=m.roots) (ns:=m.nodes) (cF h).2.1
 have h4:=aJ hr
 omega
theorem AW {sig:List Ctl} {r:Rul} {a:Big} {k:Int} (hr:aF sig r.redex=true):∀(ms:List Mat) (out l:List Stp),(∀m∈ms,dD r.redex a m=true)→(∀s∈out,vt sig s)→gA sig r a k ms out=some l→(∀s∈l,vt sig s)∧l.length≤out.length+ms.length:=by
 intro ms
 induction ms with
 | nil=>intro out l _ ho h;cases h;exact ⟨ho,Nat.le_refl _⟩
 | cons m ms ih=>
  intro out l hm ho h
  have hm1:=fun x hx=>hm x (List.mem_cons_of_mem _ hx)
  unfold gA at h
  split at h
  ·split at h
   ·rename_i h2
    obtain ⟨q1,q2⟩:=ih _ l hm1 (fun s hs=>by
     rcases List.mem_append.1 hs with hs|hs
     ·exact ho s hs
     ·rw [List.mem_singleton.1 hs]
      obtain ⟨m1,m2⟩:=za hr (hm m (by simp))
      exact ⟨m1,m2,vD h2⟩) h
    exact ⟨q1,by simp at q2 ⊢;omega⟩
   ·cases h
  ·obtain ⟨q1,q2⟩:=ih out l hm1 ho h
   exact ⟨q1,by simp;omega⟩
theorem zL {sig:List Ctl} {a:Big}:∀(rs:List Rul) (k:Nat) (out l:List Stp),(∀r∈rs,aF sig r.redex=true)→(∀s∈out,vt sig s)→du sig a rs k out=some l→(∀s∈l,vt sig s)∧l.length≤out.length+400 * rs.length:=by
 intro rs
 induction rs with
 | nil=>intro k out l _ ho h;cases h;exact ⟨ho,Nat.le_refl _⟩
 | cons r rs ih=>
  intro k out l hr ho h
  unfold du at h
  split at h
  ·cases h
  ·rename_i hn
   cases hm:gA sig r a k (pC r.redex a) out with
   | none=>rw [hm] at h;cases h
   | some o=>
    rw [hm] at h
    obtain ⟨q1,q2⟩:=AW (hr r (by simp)) _ out o (fun m hx=>mR m hx) ho hm
    obtain ⟨q3,q4⟩:=ih (k+1) o l (fun r' h'=>hr r' (List.mem_cons_of_mem _ h')) q1 h
    exact ⟨q3,by simp;omega⟩
theorem oW (sig:List Ctl) (rs:List Rul) (a:Big):(∀s∈(cJ sig rs a).1,vt sig s)∧(cJ sig rs a).1.length≤2400:=by
 unfold cJ
 split
 ·rename_i h
  rw [Bool.and_eq_true] at h
  have hrs:=List.all_eq_true.1 (Bool.and_eq_true_iff.1 h.1).2
  have hrl:=bK (Bool.and_eq_true_iff.1 h.1).1
  cases hs:du sig a rs 0 [] with
  | none=>exact ⟨fun s hs=>(by cases hs),by show (0:Nat)≤_;omega⟩
  | some l=>
   obtain ⟨q1,q2⟩:=zL rs 0 [] l (fun r hr=>(ii (hrs r hr)).1) (fun s hs=>by cases hs) hs
   exact ⟨q1,by show l.length≤_;simp at q2;omega⟩
 ·exact ⟨fun s hs=>(by cases hs),by show (0:Nat)≤_;omega⟩
theorem Dd {sig:List Ctl} {s:Stp} (h:vt sig s):dN s≤20000∧Jn s≤20000:=by
 obtain ⟨h1,h2,h3⟩:=h
 have h4:=BX (dB (kg h3))
 have e1:dN s=1+(cnL c1 s.mat.nodes+cnL c1 s.mat.roots)+(kU s.res+2):=rfl
 have e2:Jn s=cnL c1 s.mat.nodes+cnL c1 s.mat.roots+kU s.res:=rfl
 rw [lL,lL] at e1 e2
 omega
theorem Ii (sig:List Ctl) (rs:List Rul) (a:Big):cnL dN (cJ sig rs a).1≤60000000:=by
 obtain ⟨h1,h2⟩:=oW sig rs a
 have key:∀l:List Stp,(∀s∈l,vt sig s)→cnL dN l≤20000 * l.length:=by
  intro l
  induction l with
  | nil=>intro _;simp [cnL]
  | cons s l ih=>
   intro h
   have:=ih (fun x hx=>h x (List.mem_cons_of_mem _ hx))
   have:=(Dd (h s (by simp))).1
   rw [gm,List.length_cons]
   omega
 have:=key _ h1
 omega
end Go.Proofs.YtacafmejcdgboaaGreatDoor
namespace Go.Proofs.YtacafmejcdgboaaGreatDoor
open Go.RowKit
set_option linter.unusedVariables false
set_option linter.unusedSimpArgs false
set_option maxRecDepth 100000
set_option maxHeartbeats 4000000
attribute [local irreducible] ar Der At
def fy (sig:List Ctl) (g:Grd):Bool:=inR g.w 1 3 && (aF sig g.pat && bF g.pat)
def pq (sig:List Ctl) (g:GRl):Bool:=g.guards.all (fy sig) && (fO sig g.rule && (decide ((g.guards.length:Int)≤4) && inR g.prio 0 9))
theorem z1 (sig:List Ctl) (g:Grd) (hl:g.pat.inner.length≤1048576):FnD Tryz.prog 111 [.l 3 (sig.map Ctl.D),g.D] (.d (.b (fy sig g))):=by
 have f1:=pU g.w 1 3
 have f2:=sj sig g.pat hl
 refine ah Tryz.func111 (fun hw W0=>?_)
 unfold fy
 refine kgo ?_
 cases h1:inR g.w 1 3
 ·refine kgo ?_
  exact aq
 refine kgo ?_
 exact aq
theorem tU (sig:List Ctl) (g:GRl) (h1:g.rule.redex.inner.length≤1048576) (h2:g.rule.reactum.inner.length≤1048576) (h3:∀x∈g.guards,x.pat.inner.length≤1048576):FnD Tryz.prog 59 [.l 3 (sig.map Ctl.D),g.D] (.d (.b (pq sig g))):=by
 have f1:=wc sig g.rule h1 h2
 have f2:=pU g.prio 0 9
 refine ah Tryz.func59 (fun hw W0=>?_)
 have hlg:g.guards.length≤maxLen:=by have:=hw.2.1.2.1.1;rwa [List.length_map] at this
 unfold maxLen at hlg
 refine kgo ?_
 refine ai [0,3] (fun i:Nat=>i≤g.guards.length∧(g.guards.take i).all (fy sig)=true) (fun i=>g.guards.length - i) (fun i=>[(5,.sy (.d (.i i)))]) 0 ⟨Nat.zero_le _,rfl⟩ (fun i hx=>?_)
 obtain ⟨hi,hal⟩:=hx
 refine kgo ?_
 refine aL (fun h=>?_) (fun h=>?_)
 ·have hlt:i<g.guards.length:=by omega
  have f3:=z1 sig g.guards[i] (h3 _ (List.getElem_mem hlt))
  refine kgo ?_
  refine cIf (fun h4=>?_) (fun h4=>?_)
  ·rw [Bool.not_eq_true'] at h4
   rw [show pq sig g=false by unfold pq;rw [show g.guards.all (fy sig)=false from List.all_eq_false.2 ⟨_,List.getElem_mem hlt,by rw [h4];exact Bool.false_ne_true⟩];rfl]
   refine kgo ?_
   exact aq
  rw [Bool.not_eq_false'] at h4
  refine kgo ?_
  exact af (i+1) ⟨hlt,by rw [List.take_succ_eq_append_getElem hlt,List.all_append,hal,List.all_cons,h4];rfl⟩ (by omega)
 rw [List.take_of_length_le (by omega)] at hal
 unfold pq
 rw [hal,Bool.true_and]
 refine kgo ?_
 cases h4:fO sig g.rule
 ·refine kgo ?_
  exact aq
 refine kgo ?_
 cases h5:decide ((g.guards.length:Int)≤4)
 ·refine kgo ?_
  exact aq
 refine kgo ?_
 exact aq
def BI (w:Int) (a:Big) (ns:List Int) (x:Int):Bool:=if w=2 then !gV a ns x else if w=3 then gV a ns x && !dP ns x else true
theorem Fg {sig:List Ctl} {a:Big} (hA:aF sig a=true) (w:Int) (m:Mat) (x:Int) (hx:x<a.nodes.length):FnD Tryz.prog 250 [.i w,a.D,m.D,.i x] (.d (.b (BI w a m.nodes x))):=by
 have f1:=kA hA m x hx
 have f2:=jG m.nodes x
 refine ah Tryz.func250 (fun hw W0=>?_)
 unfold BI
 refine kgo ?_
 refine aL (fun h=>?_) (fun h=>?_)
 ·rw [if_pos h]
  refine kgo ?_
  exact aq
 rw [if_neg h]
 refine kgo ?_
 refine aL (fun h2=>?_) (fun h2=>?_)
 ·rw [if_pos h2]
  refine kgo ?_
  cases h3:gV a m.nodes x
  ·refine kgo ?_
   exact aq
  refine kgo ?_
  exact aq
 rw [if_neg h2]
 refine kgo ?_
 exact aq
def g8 (g:Grd) (a:Big) (ms:List Int):Nat→List Int→Bool
 | 0,ns=>dD g.pat a (gJ g.pat a ns)
 | n+1,ns=>(List.range a.nodes.length).any fun i=>nR g.pat a ns i && (BI g.w a ms i && g8 g a ms n (ns++[(i:Int)]))
theorem Bc {sig:List Ctl} {g:Grd} {a:Big} (hR:aF sig g.pat=true) (hA:aF sig a=true) (hS:bF g.pat=true) (m:Mat):∀(n:Nat) (ns:List Int),ns.length+n=g.pat.nodes.length→(∀x∈ns,0≤x∧x<(a.nodes.length:Int)) →
 FnD Tryz.prog 183 [g.D,a.D,m.D,DI ns] (.d (.b (g8 g a m.nodes n ns))):=by
 have hd:=bu hR
 have hda:=(bu hA).nodes
 have hrn:=hd.nodes
 have hr0:=aJ hR
 intro n
 induction n with
 | zero=>
  intro ns hl hx
  have f2:=tq (a:=a) hR ns (ku hS (by omega)) (fun p x hx=>by have:=tO g.pat p x hx;omega) hx
  have f3:=sS (gJ g.pat a ns) hR hA (fW hS)
  refine ah Tryz.func183 (fun hw W0=>?_)
  refine kgo ?_
  refine aL (fun h=>?_) (fun h=>?_)
  ·repeat (first|(refine cy ?_;first|refine aV ?_|refine bY ?_|refine aY ?_|refine aZ ?_|refine aS ?_|refine bg ?_|refine bi ?_|refine ay ?_|refine be ?_)|(refine fo ?_;first|refine bQ ?_|refine eZ ?_|refine cr ?_|refine b8 ?_)|(refine fa ?_;first|refine dm (fun _=>?_)|refine b9 ?_|refine cm ?_|refine bG ?_|refine cw ?_|refine ck ?_)|(refine fh ?_;first|refine cg ?_|refine eB ?_|refine bT ?_|refine bI ?_|refine cq ?_|refine bV ?_|refine bZ ?_)|(refine fe ?_;first|refine fl ?_|refine eS ?_|refine cd ?_|refine bP ?_|refine fq ?_|refine bl ?_|refine bo ?_)|(refine cu ?_;first|refine aX ?_|refine ch ?_)|(refine ff ?_;first|refine cj ?_|refine ct ?_|refine ft ?_)|(refine cf ?_;first|refine ca ?_|refine bd ?_|refine aQ ?_|refine ba ?_|refine aU ?_|refine bh ?_)|(refine fc ?_;first|refine b7 ?_|refine eY ?_|refine bj ?_|refine aR ?_|refine bm ?_)|(refine aI ?_;first|refine au _ ?_|refine bf ?_|refine aA ?_|refine av ?_|refine ax ?_)|(refine fu ?_;first|refine cb ?_|refine bH ?_|refine bX ?_)|(refine gOp ?_;first|refine fd ?_|refine fm ?_|refine bc ?_|refine fp ?_|refine fj ?_|refine bU ?_|refine aT ?_|refine co ?_|refine fw ?_|refine bM ?_|refine b6 ?_|refine bk ?_|refine sFz 25 ?_|refine az ?_|refine bW ?_|refine sNo ?_|refine dO ?_|refine aw ?_)|refine dZ ?_|refine cN ?_|refine fB ?_|refine bp ?_|refine cz ?_|refine bB ?_|refine fC ?_|refine fI ?_|refine fx ?_|refine df ?_|refine cC ?_|refine aN ?_|refine aB ?_|refine bq ?_|refine ci ?_|refine bC ?_|refine aBlkX ?_|refine cA ?_|refine sFz 25 ?_)
   exact aq
  ·omega
 | succ n ih=>
  intro ns hl hx
  have f1:=qU ns (by omega)
  have hdef:g8 g a m.nodes (n+1) ns=(List.range a.nodes.length).any fun i=>nR g.pat a ns i && (BI g.w a m.nodes i && g8 g a m.nodes n (ns++[(i:Int)])):=rfl
  refine ah Tryz.func183 (fun hw W0=>?_)
  refine kgo ?_
  refine aL (fun h=>?_) (fun h=>?_)
  ·omega
  refine kgo ?_
  refine ai [3,4,5,6] (fun i:Nat=>i≤a.nodes.length∧((List.range i).any fun i=>nR g.pat a ns i && (BI g.w a m.nodes i && g8 g a m.nodes n (ns++[(i:Int)])))=false) (fun i=>a.nodes.length - i) (fun i=>[(9,.sy (.d (.i i)))]) 0 ⟨Nat.zero_le _,rfl⟩ (fun i hx'=>?_)
  obtain ⟨hi,hno⟩:=hx'
  refine kgo ?_
  refine aL (fun h=>?_) (fun h=>?_)
  rotate_left
  ·rw [hdef,show a.nodes.length=i by omega,hno]
   refine kgo ?_
   exact aq
  have hlt:i<a.nodes.length:=by omega
  have f2:=Ab (a:=a) hR ns i hlt (by omega)
  have f3:=Fg hA g.w m (i:Int) (by omega)
  have f4:=ih (ns++[(i:Int)]) (by rw [List.length_append,List.length_singleton];omega) (fun x hx'=>by
   rcases List.mem_append.1 hx' with h|h
   ·exact hx x h
   ·rw [List.mem_singleton.1 h];omega)
  rw [show DI (ns++[(i:Int)])=D.l 1 (ns.map D.i++[D.i i]) from congrArg (D.l 1) List.map_append] at f4
  have hnext:(nR g.pat a ns i && (BI g.w a m.nodes i && g8 g a m.nodes n (ns++[(i:Int)])))=false→((List.range (i+1)).any fun i=>nR g.pat a ns i && (BI g.w a m.nodes i && g8 g a m.nodes n (ns++[(i:Int)])))=false:=fun e=>by rw [List.range_succ,List.any_append,hno];simp [e]
  refine kgo ?_
  cases h2:nR g.pat a ns i
  ·refine kgo ?_
   exact af (i+1) ⟨hlt,hnext (by rw [h2];rfl)⟩ (by omega)
  refine kgo ?_
  cases h3:BI g.w a m.nodes i
  ·refine kgo ?_
   exact af (i+1) ⟨hlt,hnext (by rw [h2,h3];rfl)⟩ (by omega)
  repeat (first|(refine cy ?_;first|refine aV ?_|refine bY ?_|refine aY ?_|refine aZ ?_|refine aS ?_|refine bg ?_|refine bi ?_|refine ay ?_|refine be ?_)|(refine fo ?_;first|refine bQ ?_|refine eZ ?_|refine cr ?_|refine b8 ?_)|(refine fa ?_;first|refine dm (fun _=>?_)|refine b9 ?_|refine cm ?_|refine bG ?_|refine cw ?_|refine ck ?_)|(refine fh ?_;first|refine cg ?_|refine eB ?_|refine bT ?_|refine bI ?_|refine cq ?_|refine bV ?_|refine bZ ?_)|(refine fe ?_;first|refine fl ?_|refine eS ?_|refine cd ?_|refine bP ?_|refine fq ?_|refine bl ?_|refine bo ?_)|(refine cu ?_;first|refine aX ?_|refine ch ?_)|(refine ff ?_;first|refine cj ?_|refine ct ?_|refine ft ?_)|(refine cf ?_;first|refine ca ?_|refine bd ?_|refine aQ ?_|refine ba ?_|refine aU ?_|refine bh ?_)|(refine fc ?_;first|refine b7 ?_|refine eY ?_|refine bj ?_|refine aR ?_|refine bm ?_)|(refine aI ?_;first|refine au _ ?_|refine bf ?_|refine aA ?_|refine av ?_|refine ax ?_)|(refine fu ?_;first|refine cb ?_|refine bH ?_|refine bX ?_)|(refine gOp ?_;first|refine fd ?_|refine fm ?_|refine bc ?_|refine fp ?_|refine fj ?_|refine bU ?_|refine aT ?_|refine co ?_|refine fw ?_|refine bM ?_|refine b6 ?_|refine bk ?_|refine sFz 57 ?_|refine az ?_|refine bW ?_|refine sNo ?_|refine dO ?_|refine aw ?_)|refine dZ ?_|refine cN ?_|refine fB ?_|refine bp ?_|refine cz ?_|refine bB ?_|refine fC ?_|refine fI ?_|refine fx ?_|refine df ?_|refine cC ?_|refine aN ?_|refine aB ?_|refine bq ?_|refine ci ?_|refine bC ?_|refine aBlkX ?_|refine cA ?_|refine sFz 57 ?_)
  cases h4:g8 g a m.nodes n (ns++[(i:Int)])
  ·refine kgo ?_
   exact af (i+1) ⟨hlt,hnext (by rw [h2,h3,h4];rfl)⟩ (by omega)
  rw [show g8 g a m.nodes (n+1) ns=true by rw [hdef];exact List.any_eq_true.2 ⟨i,List.mem_range.2 hlt,by rw [h2,h3,h4];rfl⟩]
  refine kgo ?_
  exact aq
def kT (g:Grd) (a:Big) (ms:List Int):Bool:=!(g8 g a ms g.pat.nodes.length [] == g.no)
theorem y9 {sig:List Ctl} {g:Grd} {a:Big} (hG:fy sig g=true) (hA:aF sig a=true) (m:Mat):FnD Tryz.prog 114 [g.D,a.D,m.D] (.d (.b (kT g a m.nodes))):=by
 unfold fy at hG
 simp only [Bool.and_eq_true] at hG
 have f1:=Bc hG.2.1 hA hG.2.2 m g.pat.nodes.length [] (by simp) (fun x hx=>by cases hx)
 refine ah Tryz.func114 (fun hw W0=>?_)
 unfold kT
 repeat (first|(refine cy ?_;first|refine aV ?_|refine bY ?_|refine aY ?_|refine aZ ?_|refine aS ?_|refine bg ?_|refine bi ?_|refine ay ?_|refine be ?_)|(refine fo ?_;first|refine bQ ?_|refine eZ ?_|refine cr ?_|refine b8 ?_)|(refine fa ?_;first|refine dm (fun _=>?_)|refine b9 ?_|refine cm ?_|refine bG ?_|refine cw ?_|refine ck ?_)|(refine fh ?_;first|refine cg ?_|refine eB ?_|refine bT ?_|refine bI ?_|refine cq ?_|refine bV ?_|refine bZ ?_)|(refine fe ?_;first|refine fl ?_|refine eS ?_|refine cd ?_|refine bP ?_|refine fq ?_|refine bl ?_|refine bo ?_)|(refine cu ?_;first|refine aX ?_|refine ch ?_)|(refine ff ?_;first|refine cj ?_|refine ct ?_|refine ft ?_)|(refine cf ?_;first|refine ca ?_|refine bd ?_|refine aQ ?_|refine ba ?_|refine aU ?_|refine bh ?_)|(refine fc ?_;first|refine b7 ?_|refine eY ?_|refine bj ?_|refine aR ?_|refine bm ?_)|(refine aI ?_;first|refine au _ ?_|refine bf ?_|refine aA ?_|refine av ?_|refine ax ?_)|(refine fu ?_;first|refine cb ?_|refine bH ?_|refine bX ?_)|(refine gOp ?_;first|refine fd ?_|refine fm ?_|refine bc ?_|refine fp ?_|refine fj ?_|refine bU ?_|refine aT ?_|refine co ?_|refine fw ?_|refine bM ?_|refine b6 ?_|refine bk ?_|refine sFz 10 ?_|refine az ?_|refine bW ?_|refine sNo ?_|refine dO ?_|refine aw ?_)|refine dZ ?_|refine cN ?_|refine fB ?_|refine bp ?_|refine cz ?_|refine bB ?_|refine fC ?_|refine fI ?_|refine fx ?_|refine df ?_|refine cC ?_|refine aN ?_|refine aB ?_|refine bq ?_|refine ci ?_|refine bC ?_|refine aBlkX ?_|refine cA ?_|refine sFz 10 ?_)
 exact aq
def pw (g:GRl) (a:Big) (ms:List Int):Bool:=g.guards.all fun x=>kT x a ms
theorem Dw {sig:List Ctl} {g:GRl} {a:Big} (hG:pq sig g=true) (hA:aF sig a=true) (m:Mat):FnD Tryz.prog 61 [g.D,a.D,m.D] (.d (.b (pw g a m.nodes))):=by
 unfold pq at hG
 simp only [Bool.and_eq_true,decide_eq_true_eq] at hG
 obtain ⟨h1,h2,h3,h4⟩:=hG
 refine ah Tryz.func61 (fun hw W0=>?_)
 refine kgo ?_
 refine ai [3,4,5] (fun i:Nat=>i≤g.guards.length∧((g.guards.take i).all fun x=>kT x a m.nodes)=true) (fun i=>g.guards.length - i) (fun i=>[(7,.sy (.d (.i i)))]) 0 ⟨Nat.zero_le _,rfl⟩ (fun i hx=>?_)
 obtain ⟨hi,hal⟩:=hx
 refine kgo ?_
 refine aL (fun h=>?_) (fun h=>?_)
 ·have hlt:i<g.guards.length:=by omega
  have f3:=y9 (List.all_eq_true.1 h1 _ (List.getElem_mem hlt)) hA m
  refine kgo ?_
  refine cIf (fun h5=>?_) (fun h5=>?_)
  ·rw [Bool.not_eq_true'] at h5
   rw [show pw g a m.nodes=false from List.all_eq_false.2 ⟨_,List.getElem_mem hlt,by rw [h5];exact Bool.false_ne_true⟩]
   refine kgo ?_
   exact aq
  rw [Bool.not_eq_false'] at h5
  refine kgo ?_
  exact af (i+1) ⟨hlt,by rw [List.take_succ_eq_append_getElem hlt,List.all_append,hal,List.all_cons,h5];rfl⟩ (by omega)
 rw [List.take_of_length_le (by omega)] at hal
 rw [show pw g a m.nodes=true from hal]
 refine kgo ?_
 exact aq
def jz (a b:Int):Int:=if a > b then a else b
theorem Cf (a b:Int):FnD Tryz.prog 62 [.i a,.i b] (.d (.i (jz a b))):=by
 refine ah Tryz.func62 (fun hw W0=>?_)
 unfold jz
 refine kgo ?_
 refine aL (fun h=>?_) (fun h=>?_)
 ·rw [if_pos h]
  refine kgo ?_
  exact aq
 rw [if_neg h]
 refine kgo ?_
 exact aq
def gl0:GRl:=⟨⟨fN,fN,[]⟩,[],0⟩
def y6 (gl:List GRl) (k:Int):GRl:=gl.getD k.toNat gl0
theorem kr (gl:List GRl) (q:Nat) (h:q<gl.length):y6 gl q=gl[q]:=by unfold y6;simp [h]
def jv (gl:List GRl) (a:Big) (x:Stp):Bool:=pw (y6 gl x.rule) a x.mat.nodes
def dM (gl:List GRl) (x:Stp):Int:=(y6 gl x.rule).prio
def pH (gl:List GRl) (l:List Stp):Int:=l.foldl (fun m x=>jz m (dM gl x)) 0
def bA (sig:List Ctl) (gl:List GRl) (a:Big):List Stp × Bool:=if gl.all (pq sig) then
 ((((cJ sig (gl.map GRl.rule) a).1.filter (jv gl a)).filter fun x=>decide (dM gl x=pH gl ((cJ sig (gl.map GRl.rule) a).1.filter (jv gl a)))),(cJ sig (gl.map GRl.rule) a).2) else ([],false)
theorem Br {sig:List Ctl} {r:Rul} {a:Big} {k:Int}:∀(ms:List Mat) (out l:List Stp),gA sig r a k ms out=some l→∀x∈l,x∈out∨x.rule=k:=by
 intro ms
 induction ms with
 | nil=>intro out l h x hx;unfold gA at h;cases h;exact .inl hx
 | cons m ms ih=>
  intro out l h x hx
  unfold gA at h
  split at h
  ·split at h
   ·rcases ih _ _ h x hx with h1|h1
    ·rcases List.mem_append.1 h1 with h2|h2
     ·exact .inl h2
     ·rw [List.mem_singleton.1 h2];exact .inr rfl
    ·exact .inr h1
   ·cases h
  ·exact ih _ _ h x hx
theorem AD {sig:List Ctl} {a:Big}:∀(rs:List Rul) (k:Nat) (out l:List Stp),du sig a rs k out=some l→∀x∈l,x∈out∨((k:Int)≤x.rule∧x.rule<k+rs.length):=by
 intro rs
 induction rs with
 | nil=>intro k out l h x hx;unfold du at h;cases h;exact .inl hx
 | cons r rs ih=>
  intro k out l h x hx
  unfold du at h
  split at h
  ·cases h
  ·obtain ⟨o,h1,h2⟩:=Option.bind_eq_some_iff.1 h
   rw [List.length_cons]
   rcases ih _ _ _ h2 x hx with h3|h3
   ·rcases Br _ _ _ h1 x h3 with h4|h4
    ·exact .inl h4
    ·exact .inr (by omega)
   ·exact .inr (by omega)
theorem s9 {sig:List Ctl} {rs:List Rul} {a:Big} {x:Stp} (h:x∈(cJ sig rs a).1):fS sig a=true∧0≤x.rule∧x.rule<rs.length:=by
 unfold cJ at h
 split at h
 ·rename_i hb
  refine ⟨(Bool.and_eq_true_iff.1 hb).2,?_⟩
  cases hs:du sig a rs 0 [] with
  | none=>rw [hs] at h;cases h
  | some l=>
   rw [hs] at h
   rcases AD rs 0 [] l hs x h with h1|h1
   ·cases h1
   ·omega
 ·cases h
theorem mr (sig:List Ctl) (gl:List GRl) (a:Big) (hr:∀r∈gl,r.rule.redex.inner.length≤1048576∧r.rule.reactum.inner.length≤1048576∧∀x∈r.guards,x.pat.inner.length≤1048576) (ha:a.inner.length≤1048576) (hgl:gl.length≤1048576) (hlen:∀i,i≤gl.length→(gl.take i).all (pq sig)=true→i≤600000):FnD Tryz.prog 20 [.l 3 (sig.map Ctl.D),.l 15 (gl.map GRl.D),a.D] (.tp [.l 9 ((bA sig gl a).1.map Stp.D),.b (bA sig gl a).2]):=by
 have f2:=qP sig (gl.map GRl.rule) a (fun r hr'=>by
  obtain ⟨x,hx,rfl⟩:=List.mem_map.1 hr'
  exact ⟨(hr x hx).1,(hr x hx).2.1⟩) ha
 refine ah Tryz.func20 (fun hw W0=>?_)
 refine kgo ?_
 refine ai [0,1,5] (fun i:Nat=>i≤gl.length∧(gl.take i).all (pq sig)=true) (fun i=>gl.length - i) (fun i=>[(9,.sy (.d (.i i))),(8,.sy (.k 20001)),(20001,.tk (.row 13 89 (((gl.take i).map GRl.rule).map Rul.D)))]) 0 ⟨Nat.zero_le _,rfl⟩ (fun i hx=>?_)
 obtain ⟨hi,hal⟩:=hx
 have hil:=hlen i hi hal
 refine kgo ?_
 refine aL (fun h=>?_) (fun h=>?_)
 ·have hlt:i<gl.length:=by omega
  have h4:=hr _ (List.getElem_mem hlt)
  have f3:=tU sig gl[i] h4.1 h4.2.1 h4.2.2
  have hs:((gl.take (i+1)).map GRl.rule).map Rul.D=((gl.take i).map GRl.rule).map Rul.D++[(gl[i]).rule.D]:=by rw [List.take_succ_eq_append_getElem hlt,List.map_append,List.map_append];rfl
  have hl3:((gl.take i).map GRl.rule).length≤600000:=by rw [List.length_map,List.length_take];omega
  refine kgo ?_
  refine cIf (fun h5=>?_) (fun h5=>?_)
  ·rw [Bool.not_eq_true'] at h5
   rw [show bA sig gl a=([],false) by unfold bA;rw [if_neg (by rw [List.all_eq_true];exact fun h6=>by rw [h6 _ (List.getElem_mem hlt)] at h5;cases h5)]]
   repeat (first|(refine cy ?_;first|refine aV ?_|refine bY ?_|refine aY ?_|refine aZ ?_|refine aS ?_|refine bg ?_|refine bi ?_|refine ay ?_|refine be ?_)|(refine fo ?_;first|refine bQ ?_|refine eZ ?_|refine cr ?_|refine b8 ?_)|(refine fa ?_;first|refine dm (fun _=>?_)|refine b9 ?_|refine cm ?_|refine bG ?_|refine cw ?_|refine ck ?_)|(refine fh ?_;first|refine cg ?_|refine eB ?_|refine bT ?_|refine bI ?_|refine cq ?_|refine bV ?_|refine bZ ?_)|(refine fe ?_;first|refine fl ?_|refine eS ?_|refine cd ?_|refine bP ?_|refine fq ?_|refine bl ?_|refine bo ?_)|(refine cu ?_;first|refine aX ?_|refine ch ?_)|(refine ff ?_;first|refine fF (d:=6) ?_|refine cj ?_|refine ct ?_|refine ft ?_)|(refine cf ?_;first|refine ca ?_|refine bd ?_|refine aQ ?_|refine ba ?_|refine aU ?_|refine bh ?_)|(refine fc ?_;first|refine b7 ?_|refine eY ?_|refine bj ?_|refine aR ?_|refine bm ?_)|(refine aI ?_;first|refine au _ ?_|refine bf ?_|refine aA ?_|refine av ?_|refine ax ?_)|(refine fu ?_;first|refine cb ?_|refine bH ?_|refine bX ?_)|(refine gOp ?_;first|refine fd ?_|refine fm ?_|refine bc ?_|refine fp ?_|refine fj ?_|refine bU ?_|refine aT ?_|refine co ?_|refine fw ?_|refine bM ?_|refine b6 ?_|refine bk ?_|refine az ?_|refine bW ?_|refine sNo ?_|refine dO ?_|refine aw ?_)|refine dZ ?_|refine cN ?_|refine fB ?_|refine bp ?_|refine cz ?_|refine bB ?_|refine fC ?_|refine fI ?_|refine fx ?_|refine df ?_|refine cC ?_|refine aN ?_|refine aB ?_|refine bq ?_|refine ci ?_|refine bC ?_|refine aBlkX ?_|refine cA ?_)
   exact iA
  rw [Bool.not_eq_false'] at h5
  refine kgo ?_
  exact af (i+1) ⟨hlt,by rw [List.take_succ_eq_append_getElem hlt,List.all_append,hal,List.all_cons,h5];rfl⟩ (by omega)
 have hgi:i=gl.length:=by omega
 subst hgi
 rw [List.take_of_length_le (Nat.le_refl _)] at hal ⊢
 have hin:∀x∈(cJ sig (gl.map GRl.rule) a).1,fS sig a=true∧0≤x.rule∧x.rule<gl.length:=fun x hx=>by
  have:=s9 hx
  rwa [List.length_map] at this
 have hE:bA sig gl a=((((cJ sig (gl.map GRl.rule) a).1.filter (jv gl a)).filter fun x=>decide (dM gl x=pH gl ((cJ sig (gl.map GRl.rule) a).1.filter (jv gl a)))),(cJ sig (gl.map GRl.rule) a).2):=by unfold bA;rw [hal];rfl
 rw [hE]
 have hll:=(oW sig (gl.map GRl.rule) a).2
 generalize cJ sig (gl.map GRl.rule) a=q at *
 obtain ⟨l,ok⟩:=q
 dsimp only at hin hll ⊢
 repeat (first|(refine cy ?_;first|refine aV ?_|refine bY ?_|refine aY ?_|refine aZ ?_|refine aS ?_|refine bg ?_|refine bi ?_|refine ay ?_|refine be ?_)|(refine fo ?_;first|refine bQ ?_|refine eZ ?_|refine cr ?_|refine b8 ?_)|(refine fa ?_;first|refine dm (fun _=>?_)|refine b9 ?_|refine cm ?_|refine bG ?_|refine cw ?_|refine ck ?_)|(refine fh ?_;first|refine cg ?_|refine eB ?_|refine bT ?_|refine bI ?_|refine cq ?_|refine bV ?_|refine bZ ?_)|(refine fe ?_;first|refine fl ?_|refine eS ?_|refine cd ?_|refine bP ?_|refine fq ?_|refine bl ?_|refine bo ?_)|(refine cu ?_;first|refine aX ?_|refine ch ?_)|(refine ff ?_;first|refine cj ?_|refine ct ?_|refine ft ?_)|(refine cf ?_;first|refine ca ?_|refine bd ?_|refine aQ ?_|refine ba ?_|refine aU ?_|refine bh ?_)|(refine fc ?_;first|refine b7 ?_|refine eY ?_|refine bj ?_|refine aR ?_|refine bm ?_)|(refine aI ?_;first|refine au _ ?_|refine bf ?_|refine aA ?_|refine av ?_|refine ax ?_)|(refine fu ?_;first|refine cb ?_|refine bH ?_|refine bX ?_)|(refine gOp ?_;first|refine fd ?_|refine fm ?_|refine bc ?_|refine fp ?_|refine fj ?_|refine bU ?_|refine aT ?_|refine co ?_|refine fw ?_|refine bM ?_|refine b6 ?_|refine bk ?_|refine sFz 42 ?_|refine az ?_|refine bW ?_|refine sNo ?_|refine dO ?_|refine aw ?_)|refine dZ ?_|refine cN ?_|refine fB ?_|refine bp ?_|refine cz ?_|refine bB ?_|refine fC ?_|refine fI ?_|refine fx ?_|refine df ?_|refine cC ?_|refine aN ?_|refine aB ?_|refine bq ?_|refine ci ?_|refine bC ?_|refine aBlkX ?_|refine cA ?_|refine sFz 42 ?_)
 refine ai [1,5,10,11] (fun x:Nat × List Stp × Int=>x.1≤l.length∧x.2.1=(l.take x.1).filter (jv gl a)∧x.2.2=pH gl x.2.1) (fun x=>l.length - x.1) (fun x=>[(14,.sy (.d (.i x.1))),(12,.sy (.k 20001)),(20001,.tk (.row 9 118 (x.2.1.map Stp.D))),(13,.sy (.d (.i x.2.2)))]) (0,[],0) ⟨Nat.zero_le _,rfl,rfl⟩ (fun x hx=>?_)
 obtain ⟨i,F,mo⟩:=x
 obtain ⟨hi,hF,hmo⟩:=hx
 dsimp only at hi hF hmo ⊢
 refine kgo ?_
 refine aL (fun h1=>?_) (fun h1=>?_)
 ·have hlt:i<l.length:=by omega
  obtain ⟨ag,r0,r1⟩:=hin _ (List.getElem_mem hlt)
  obtain ⟨q,hq⟩:=Int.eq_ofNat_of_zero_le r0
  have hql:q<gl.length:=by omega
  have hgq:y6 gl (l[i]).rule=gl[q]:=by rw [hq,kr gl q hql]
  have hFl:F.length≤2400:=by rw [hF];exact Nat.le_trans (List.length_filter_le _ _) (by rw [List.length_take];omega)
  have f4:=Dw (List.all_eq_true.1 hal _ (List.getElem_mem hql)) (kg ag) (l[i]).mat
  have f5:=Cf mo (gl[q]).prio
  have hs1:(l.take (i+1)).filter (jv gl a)=(l.take i).filter (jv gl a)++(if pw gl[q] a (l[i]).mat.nodes then [l[i]] else []):=by
   rw [List.take_succ_eq_append_getElem hlt,List.filter_append]
   congr 1
   have:jv gl a l[i]=pw gl[q] a (l[i]).mat.nodes:=by unfold jv;rw [hgq]
   by_cases hb:pw gl[q] a (l[i]).mat.nodes=true
   ·rw [if_pos hb,List.filter_cons_of_pos (by rw [this];exact hb)];rfl
   ·rw [if_neg hb,List.filter_cons_of_neg (by rw [this];exact hb)];rfl
  refine kgo ?_
  refine dm (n:=q) (fun _=>?_) rfl rfl (congrArg some hq)
  refine kgo ?_
  refine cIf (fun h2=>?_) (fun h2=>?_)
  ·rw [h2,if_pos rfl,← hF] at hs1
   have hs2:(F++[l[i]]).map Stp.D=F.map Stp.D++[(l[i]).D]:=List.map_append
   have hm2:pH gl (F++[l[i]])=jz mo (gl[q]).prio:=by unfold pH;rw [List.foldl_append,List.foldl_cons,List.foldl_nil];unfold dM;rw [hgq,hmo];rfl
   refine kgo ?_
   refine dm (n:=q) (fun _=>?_) rfl rfl (congrArg some hq)
   refine kgo ?_
   exact af (i+1,F++[l[i]],jz mo (gl[q]).prio) ⟨hlt,hs1.symm,hm2.symm⟩ (by show _ - (i+1)<_ - i;omega)
  ·rw [h2,if_neg Bool.false_ne_true,List.append_nil,← hF] at hs1
   refine kgo ?_
   exact af (i+1,F,mo) ⟨hlt,hs1.symm,hmo⟩ (by show _ - (i+1)<_ - i;omega)
 rw [List.take_of_length_le (by omega)] at hF
 rw [← hF,← hmo]
 have hFl:F.length≤2400:=by rw [hF];exact Nat.le_trans (List.length_filter_le _ _) hll
 refine cFz 12 ?_
 refine kgo ?_
 refine ai [1,11,12,13] (fun x:Nat × List Stp=>x.1≤F.length∧x.2=(F.take x.1).filter (fun x=>decide (dM gl x=mo))) (fun x=>F.length - x.1) (fun x=>[(16,.sy (.d (.i x.1))),(15,.sy (.k 20001)),(20001,.tk (.row 9 118 (x.2.map Stp.D)))]) (0,[]) ⟨Nat.zero_le _,rfl⟩ (fun x hx=>?_)
 obtain ⟨j,o⟩:=x
 obtain ⟨hj,ho⟩:=hx
 dsimp only at hj ho ⊢
 refine kgo ?_
 refine aL (fun h1=>?_) (fun h1=>?_)
 ·have hlt:j<F.length:=by omega
  have hmem:(F)[j]∈l:=(List.mem_filter.1 ((congrArg (fun z=>(F)[j]∈z) hF).mp (List.getElem_mem hlt))).1
  obtain ⟨ag,r0,r1⟩:=hin _ hmem
  obtain ⟨q,hq⟩:=Int.eq_ofNat_of_zero_le r0
  have hql:q<gl.length:=by omega
  have hgq:y6 gl ((F)[j]).rule=gl[q]:=by rw [hq,kr gl q hql]
  have hol:o.length≤2400:=by rw [ho];exact Nat.le_trans (List.length_filter_le _ _) (by rw [List.length_take];omega)
  have hs1:(F.take (j+1)).filter (fun x=>decide (dM gl x=mo))=(F.take j).filter (fun x=>decide (dM gl x=mo))++(if decide ((gl[q]).prio=mo)=true then [(F)[j]] else []):=by
   rw [List.take_succ_eq_append_getElem hlt,List.filter_append]
   congr 1
   have:dM gl (F)[j]=(gl[q]).prio:=by unfold dM;rw [hgq]
   by_cases hb:(gl[q]).prio=mo
   ·rw [if_pos (decide_eq_true hb),List.filter_cons_of_pos (by rw [this];exact decide_eq_true hb)];rfl
   ·rw [if_neg (by rw [decide_eq_false hb];exact Bool.false_ne_true),List.filter_cons_of_neg (by rw [this,decide_eq_false hb];exact Bool.false_ne_true)];rfl
  refine kgo ?_
  refine dm (n:=q) (fun _=>?_) rfl rfl (congrArg some hq)
  refine kgo ?_
  refine cIf (fun h2=>?_) (fun h2=>?_)
  ·rw [h2,if_pos rfl,← ho] at hs1
   have hs2:(o++[(F)[j]]).map Stp.D=o.map Stp.D++[((F)[j]).D]:=List.map_append
   refine kgo ?_
   exact af (j+1,o++[(F)[j]]) ⟨hlt,hs1.symm⟩ (by show _ - (j+1)<_ - j;omega)
  ·rw [h2,if_neg Bool.false_ne_true,List.append_nil,← ho] at hs1
   refine kgo ?_
   exact af (j+1,o) ⟨hlt,hs1.symm⟩ (by show _ - (j+1)<_ - j;omega)
 rw [List.take_of_length_le (by omega)] at ho
 rw [← ho]
 repeat (first|(refine cy ?_;first|refine aV ?_|refine bY ?_|refine aY ?_|refine aZ ?_|refine aS ?_|refine bg ?_|refine bi ?_|refine ay ?_|refine be ?_)|(refine fo ?_;first|refine bQ ?_|refine eZ ?_|refine cr ?_|refine b8 ?_)|(refine fa ?_;first|refine dm (fun _=>?_)|refine b9 ?_|refine cm ?_|refine bG ?_|refine cw ?_|refine ck ?_)|(refine fh ?_;first|refine cg ?_|refine eB ?_|refine bT ?_|refine bI ?_|refine cq ?_|refine bV ?_|refine bZ ?_)|(refine fe ?_;first|refine fl ?_|refine eS ?_|refine cd ?_|refine bP ?_|refine fq ?_|refine bl ?_|refine bo ?_)|(refine cu ?_;first|refine aX ?_|refine ch ?_)|(refine ff ?_;first|refine fF (d:=6) ?_|refine cj ?_|refine ct ?_|refine ft ?_)|(refine cf ?_;first|refine ca ?_|refine bd ?_|refine aQ ?_|refine ba ?_|refine aU ?_|refine bh ?_)|(refine fc ?_;first|refine b7 ?_|refine eY ?_|refine bj ?_|refine aR ?_|refine bm ?_)|(refine aI ?_;first|refine au _ ?_|refine bf ?_|refine aA ?_|refine av ?_|refine ax ?_)|(refine fu ?_;first|refine cb ?_|refine bH ?_|refine bX ?_)|(refine gOp ?_;first|refine fd ?_|refine fm ?_|refine bc ?_|refine fp ?_|refine fj ?_|refine bU ?_|refine aT ?_|refine co ?_|refine fw ?_|refine bM ?_|refine b6 ?_|refine bk ?_|refine az ?_|refine bW ?_|refine sNo ?_|refine dO ?_|refine aw ?_)|refine dZ ?_|refine cN ?_|refine fB ?_|refine bp ?_|refine cz ?_|refine bB ?_|refine fC ?_|refine fI ?_|refine fx ?_|refine df ?_|refine cC ?_|refine aN ?_|refine aB ?_|refine bq ?_|refine ci ?_|refine bC ?_|refine aBlkX ?_|refine cA ?_)
 exact iA
end Go.Proofs.YtacafmejcdgboaaGreatDoor
namespace Go.Proofs.YtacafmejcdgboaaGreatDoor
open Go.RowKit
set_option linter.unusedVariables false
set_option linter.unusedSimpArgs false
theorem DVs.keepS {w w':World} {S S':BS} (hS:∀b,S b→S' b) (h:eV S w w'):∀(ds:List D) (vs:List Value),DVs w S ds vs→DVs w' S' ds vs:=by
 intro ds
 induction ds with
 | nil=>intro vs r;exact r
 | cons d ds ih=>intro vs ⟨v,t,h1,h2,h3⟩;exact ⟨v,t,h1,DV.keep hS h h2,ih t h3⟩
section
variable {P:Program} {ops:Array Oper} {W0:bN} {N:Nat} {Fin:Us→Env→Prop} {os:List Oper} {us:Us} {pk fk:List Nat} {σ:Env} {g:Option (Nat × Bool)} {gk:List Nat} {d ty ty' f:Nat} {pos:String} {after:Array Edge} {at':Array TypeId} {ds cs rs:List D} {q q':WP} {tag:Option Value} {b:Bool} {i:Nat} {u:Value}
end
section
variable {P:Program} {W0:bN} {N:Nat} {σ:Env} {C:Code} {Q:Exit→Act→World→Prop} {i j t:Nat} {z e:Nat} {ds cs:List D} {u:Value} {q:WP} {x:Exit} {tag:Option Value}
end
end Go.Proofs.YtacafmejcdgboaaGreatDoor
namespace Go.Proofs.YtacafmejcdgboaaGreatDoor
open Go.RowKit
set_option linter.unusedVariables false
set_option linter.unusedSimpArgs false
structure Cel where
 a:Value
 b:Value
 c:Value
 d:Value
 e:Value
 f:Value
 g:Value
 h:Value
 i:Value
abbrev Cel.D (x:Cel):D:=.t [.c x.a,.t [.c x.b,.c x.c],.t [.c x.d,.c x.e,.c x.f,.c x.g,.c x.h,.c x.i]]
def Cel.cells (x:Cel):List Value:=[x.a,x.b,x.c,x.d,x.e,x.f,x.g,x.h,x.i]
abbrev CB:=Cel × Bool
abbrev cbD (x:CB):D:=x.1.D
theorem Ej {w:World} {S:BS} {x:Cel} {cs:List Value} (h:RpL w S [.c x.a,.t [.c x.b,.c x.c],.t [.c x.d,.c x.e,.c x.f,.c x.g,.c x.h,.c x.i]] cs):cs=x.cells:=by
 obtain ⟨c1,e1,rfl,⟨rfl,_⟩,c2,e2,rfl,⟨d1,f1,rfl,⟨rfl,_⟩,d2,f2,rfl,⟨rfl,_⟩,g1⟩,c3,e3,rfl,⟨d4,e4,rfl,⟨rfl,_⟩,d5,e5,rfl,⟨rfl,_⟩,d6,e6,rfl,⟨rfl,_⟩,d7,e7,rfl,⟨rfl,_⟩,d8,e8,rfl,⟨rfl,_⟩,d9,e9,rfl,⟨rfl,_⟩,g2⟩,h⟩:=h
 rw [show e3 = [] from h,show f2 = [] from g1,show e9 = [] from g2];rfl
theorem Hj {w:World} {S:BS} (x:Cel) (h:∀u∈x.cells,u.oneCell'=true):RpL w S [.c x.a,.t [.c x.b,.c x.c],.t [.c x.d,.c x.e,.c x.f,.c x.g,.c x.h,.c x.i]] x.cells:=
 ⟨[x.a],_,rfl,⟨rfl,h _ (by simp [Cel.cells])⟩,[x.b,x.c],_,rfl,⟨[x.b],_,rfl,⟨rfl,h _ (by simp [Cel.cells])⟩,[x.c],[],rfl,⟨rfl,h _ (by simp [Cel.cells])⟩,rfl⟩,[x.d,x.e,x.f,x.g,x.h,x.i],[],rfl,⟨[x.d],_,rfl,⟨rfl,h _ (by simp [Cel.cells])⟩,[x.e],_,rfl,⟨rfl,h _ (by simp [Cel.cells])⟩,[x.f],_,rfl,⟨rfl,h _ (by simp [Cel.cells])⟩,[x.g],_,rfl,⟨rfl,h _ (by simp [Cel.cells])⟩,[x.h],_,rfl,⟨rfl,h _ (by simp [Cel.cells])⟩,[x.i],[],rfl,⟨rfl,h _ (by simp [Cel.cells])⟩,rfl⟩,rfl⟩
structure ni (P:Program) (g:FuncId) (cv:List Value) (W:World) (M:BS) (l:List CB):Prop where
 enter:∀args w,(callFunc g args).run P w=.ok (.enter g args) w
 calls:∀x∈l,∀w',Chg M W w'→Calls P g (.agg x.1.cells.toArray :: cv).toArray w' fun en w''=>en=.returned (.bool x.2)∧Ext w' w''
theorem Chg.trans2 {M S:BS} {W w w':World} (h:Chg M W w) (hg:Chg S w w') (hS:∀b,S b→M b∨W.heap.size≤b):Chg M W w':=
 ⟨hg.os.trans h.os,hg.tape.trans h.tape,hg.output.trans h.output,Nat.le_trans h.size hg.size,fun k hk hn=>(hg.block k (Nat.lt_of_lt_of_le hk h.size) (fun hs=>(hS k hs).elim hn (Nat.not_le.2 hk))).trans (h.block k hk hn)⟩
def ID (z e:Nat) (xs:List D) (fv:Value):Env:=[(0,.sy (.k 20000)),(1,.sy (.v fv)),(20000,.tk (.row z e xs))]
theorem BE {P:Program} {f:FuncId} {z e:Nat} {xs:List D} {fn:Func} {c:Code} {N:Nat} {Post:Ending→World→Prop} {F S:BS} {w:World} {v fv:Value} (hf:P.funcs[f]? = some fn) (h:ar P ⟨w,F,S⟩ N c (ID z e xs fv) (bodyPost P fn Post)) (hb:fn.body=some c) (hN:fn.ntmps=N) (hl:Nat.blt 2 N=true) (hp:(Tk.row z e xs).ok (Cx.of F) w v S) (hF:∀b,F b→b<w.heap.size) (hS:∀b,S b→¬F b∧b<w.heap.size):Calls P f #[v,fv] w Post:=by
 have hl':=Nat.blt_eq.mp hl
 have key:∀(i:Nat) (t:Tk),aj (ID z e xs fv) i=some (.tk t)→i=20000∧t=.row z e xs:=fun i t hi=>by
  unfold ID at hi
  rw [aa] at hi
  split at hi
  ·cases hi
  rw [aa] at hi
  split at hi
  ·cases hi
  rw [aa] at hi
  split at hi
  ·rename_i e3;cases hi;exact ⟨e3.symm,rfl⟩
  ·cases hi
 refine calls_of_wp hf hb (h _ w ⟨⟨F,fun _=>v,fun _=>S,fun i=>i=20000⟩,Chg.rfl',fun b hb=>.inl hb,hF,?_,rfl,fun i hi=>?_,fun i t ht=>?_,fun i j t u hi hj hne=>absurd ((key i t hi).1.trans (key j u hj).1.symm) hne,fun t s ht=>?_⟩)
 ·simp [hN];omega
 ·rw [show i=20000 from hi];exact fun e=>by cases e
 ·obtain ⟨rfl,rfl⟩:=key i t ht
  exact ⟨rfl,qC hp,fun b hb=>⟨(hS b hb).1,(hS b hb).2,.inl hb⟩⟩
 ·unfold ID at ht
  rw [aa] at ht
  split at ht
  ·rename_i e1;cases ht;subst e1
   exact ⟨v,by rw [Array.getElem?_append_left (by simp)];rfl,rfl,rfl⟩
  rw [aa] at ht
  split at ht
  ·rename_i e1;cases ht;subst e1
   exact ⟨fv,by rw [Array.getElem?_append_left (by simp)];rfl,rfl⟩
  rw [aa] at ht
  split at ht <;> cases ht
def IA (r:D) (fv:Value):Env:=[(0,.sy (.d r)),(1,.sy (.v fv))]
theorem By {P:Program} {f:FuncId} {r:D} {fn:Func} {c:Code} {N:Nat} {Post:Ending→World→Prop} {F:BS} {w:World} {v fv:Value} (hf:P.funcs[f]? = some fn) (h:ar P ⟨w,F,fun _=>False⟩ N c (IA r fv) (bodyPost P fn Post)) (hb:fn.body=some c) (hN:fn.ntmps=N) (hl:Nat.blt 2 N=true) (hp:DV w F r v) (hF:∀b,F b→b<w.heap.size):Calls P f #[v,fv] w Post:=by
 have hl':=Nat.blt_eq.mp hl
 have key:∀(i:Nat) (t:Tk),aj (IA r fv) i≠some (.tk t):=fun i t hi=>by
  unfold IA at hi
  rw [aa] at hi
  split at hi
  ·cases hi
  rw [aa] at hi
  split at hi <;> cases hi
 refine calls_of_wp hf hb (h _ w ⟨⟨F,fun _=>v,fun _ _=>False,fun _=>False⟩,Chg.rfl',fun b hb=>.inl hb,hF,?_,rfl,fun i hi=>hi.elim,fun i t ht=>absurd ht (key i t),fun i j t u hi hj hne=>absurd hi (key i t),fun t s ht=>?_⟩)
 ·simp [hN];omega
 ·unfold IA at ht
  rw [aa] at ht
  split at ht
  ·rename_i e1;cases ht;subst e1
   exact ⟨v,by rw [Array.getElem?_append_left (by simp)];rfl,hp⟩
  rw [aa] at ht
  split at ht
  ·rename_i e1;cases ht;subst e1
   exact ⟨fv,by rw [Array.getElem?_append_left (by simp)];rfl,rfl⟩
  ·cases ht
theorem ni.mono {P:Program} {g:FuncId} {cv:List Value} {W w:World} {M S:BS} {l:List CB} (h:ni P g cv W M l) (hx:Chg M W w) (hS:∀b,S b→M b∨W.heap.size≤b):ni P g cv w S l:=
 ⟨h.enter,fun x hl w' hw=>h.calls x hl w' (hx.trans2 hw hS)⟩
structure Jp (P:Program) (f:FuncId):Prop where
 enter:∀args w,(callFunc f args).run P w=.ok (.enter f args) w
 calls:∀(F:BS) (w:World) (v:Value) (g:FuncId) (cv:List Value) (l:List CB),DV w F (.l 9 (l.map cbD)) v→ni P g cv w (fun _=>False) l→(∀b,F b→b<w.heap.size)→l.length≤1000000 →
  Calls P f #[v,.func (.func g) #[] cv.toArray] w fun en w'=>en=.returned (.int .i64 (lc Prod.snd l))∧Ext w w'
structure Hp (P:Program) (f e:Nat):Prop where
 enter:∀args w,(callFunc f args).run P w=.ok (.enter f args) w
 calls:∀(F S:BS) (w:World) (v:Value) (g:FuncId) (cv:List Value) (l:List CB),(Tk.row 9 e (l.map cbD)).ok (Cx.of F) w v S→ni P g cv w S l→(∀b,F b→b<w.heap.size)→(∀b,S b→¬F b∧b<w.heap.size)→l.length≤1000000 →
  Calls P f #[v,.func (.func g) #[] cv.toArray] w fun en w'=>∃(u:Value) (S':BS),en=.returned u∧Chg S w w'∧(∀b,S' b→(S b∨w.heap.size≤b)∧b<w'.heap.size)∧(Tk.row 9 e ((l.filter fun x=>!x.2).map cbD)).ok (Cx.of F) w' u S'
section
variable {P:Program} {ops:Array Oper} {W0:bN} {N:Nat} {Fin:Us→Env→Prop} {os:List Oper} {us:Us} {pk fk:List Nat} {σ:Env} {g:Option (Nat × Bool)} {gk:List Nat} {d ty ty' f:Nat} {pos:String} {after:Array Edge} {at':Array TypeId} {cv:List Value} {l:List CB} {g0:Nat}
theorem zx {x t:Operand} (y:CB) (hp:ni P g0 cv W0.w W0.M l) (hy:y∈l) (h:Der P ops W0 N Fin os (us++[((d :: (gk++(kx t++kx x)))++pk,([d])++fk)]) [] [] ((d,.sy (.d (.b y.2))) :: σ)) (hx:ev σ x=some (.d (cbD y)):=by rfl) (ht:ev σ t=some (.v (.func (.func g0) #[] cv.toArray)):=by rfl) (hg:gst ops σ g=some (true,gk):=by rfl) (hN:Nat.blt d N=true:=by rfl) (hs:aE σ d=true:=by rfl):Der P ops W0 N Fin (⟨some d,.call { callee:=.value t,args:=[x].toArray,argTypes:=at' },ty,pos,after,g⟩ :: os) us pk fk σ:=
 js (.d (.b y.2)) (kx t++kx x) [] (fun σ' c a w hk hc=>by
  have h1:a.eval t=.func (.func g0) #[] cv.toArray:=am hc (ab ht (fun κ hκ=>hk κ (by simp [hκ])))
  obtain ⟨cs,h2,h3⟩:=am hc (ab hx (fun κ hκ=>hk κ (by simp [hκ])))
  have h4:=Ej h3
  unfold Oper.wp
  rw [lh hp.enter h1]
  show Calls P g0 (([a.eval x]++cv).toArray) w _
  rw [h2,h4]
  refine (hp.calls y hy w hc.ext).mono ?_
  rintro e w' ⟨rfl,hX⟩
  exact ⟨_,_,rfl,hc.fresh hX,rfl⟩) h hg hN hs rfl
theorem Gg {x t:Operand} (hp:ni P g0 cv W0.w W0.M l) (hl:l.length≤1000000) (h:Der P ops W0 N Fin os (us++[((d :: (gk++(kx t++zG σ [x])))++pk,([d])++fk)]) [] [] ((d,.sy (.d (.i (lc Prod.snd l)))) :: σ)) (hI:I64 (lc Prod.snd l)) (hx:GB σ [x]=some [.l 9 (l.map cbD)]:=by rfl) (ht:ev σ t=some (.v (.func (.func g0) #[] cv.toArray)):=by rfl) (hf:Jp P f:=by assumption) (hg:gst ops σ g=some (true,gk):=by rfl) (hN:Nat.blt d N=true:=by rfl) (hs:aE σ d=true:=by rfl):Der P ops W0 N Fin (⟨some d,.call { callee:=.value (.func f),args:=[x,t].toArray,argTypes:=at' },ty,pos,after,g⟩ :: os) us pk fk σ:=
 js (.d (.i (lc Prod.snd l))) (kx t++zG σ [x]) [] (fun σ' c a w hk hc=>by
  have h1:a.eval t=.func (.func g0) #[] cv.toArray:=am hc (ab ht (fun κ hκ=>hk κ (by simp [hκ])))
  obtain ⟨v,t0,e1,h2,e2⟩:=uw hc [x] _ hx (fun κ hκ=>hk κ (by simp [hκ]))
  unfold Oper.wp
  rw [bE hf.enter rfl]
  have e3:a.eval x=v:=(List.cons.inj e1).1
  show Calls P f (#[a.eval x,a.eval t]) w _
  rw [h1,e3]
  refine (hf.calls (qN c σ') w v g0 cv l h2 (hp.mono hc.ext (fun b hb=>hb.elim)) (tX hc) hl).mono ?_
  rintro e w' ⟨rfl,hX⟩
  exact ⟨_,_,rfl,hc.fresh hX,rfl,hI⟩) h hg hN hs rfl
theorem Jg {x y:Operand} {i z n e e':Nat} {ds:List D} {s:Sy} (h:Der P ops W0 N Fin os (us++[((d :: (gk++(i :: (kx x++kx y))))++pk,([d])++fk)]) [] [] ((d,.sy (.sl i n z)) :: σ)) (hlt:n<ds.length) (hx:ev σ x=some (.k i):=by rfl) (hi:aj σ i=some (.tk (.row z e ds)):=by rfl) (hy:ev σ y=some s:=by rfl) (hn:s.int? = some (n:Int):=by rfl) (he:elem? P ty'=some e':=by rfl) (hz:sizeOf? P e'=some z:=by rfl) (hg:gst ops σ g=some (true,gk):=by rfl) (hN:Nat.blt d N=true:=by rfl) (hs:aE σ d=true:=by rfl):Der P ops W0 N Fin (⟨some d,.slice ty' x (some y) none none,ty,pos,after,g⟩ :: os) us pk fk σ:=
 bO (.sl i n z) (i :: (kx x++kx y)) (fun σ' c a w hk hc=>by
  obtain ⟨hA,h1⟩:=am hc (ab hx (fun κ hκ=>hk κ (by simp [hκ])))
  have h2:=cZ hn (am hc (ab hy (fun κ hκ=>hk κ (by simp [hκ]))))
  obtain ⟨_,hT,_⟩:=hc.tok i _ ((hk i (by simp)).trans hi)
  rcases hT with ⟨hd,_⟩|⟨cells,h3,_⟩
  ·subst hd;exact absurd hlt (Nat.not_lt_zero _)
  rcases h3.2 with ⟨_,hn0⟩|⟨gb,cap,cur,hv,_,_,h5,h6,_⟩
  ·rw [hn0] at hlt;exact absurd hlt (Nat.not_lt_zero _)
  ·refine ⟨_,qf he hz (h1.trans hv) h2 (by omega),hA,gb,ds.length,cap,hv,?_⟩
   rw [if_neg (by omega)]
   simp only [Option.map_some,Addr.add]
   split
   ·rename_i h0;rw [h0]
   ·simp) h hg hN hs
theorem IP {x y:Operand} {i z n e e':Nat} {ds:List D} {s:Sy} (h:Der P ops W0 N Fin os (us++[((d :: (gk++(i :: (10000+d) :: (kx x++kx y))))++pk,([d,10000+d,i])++fk)]) [] [] ((d,.sy (.k (10000+d))) :: (10000+d,.tk (.row z e (ds.take n))) :: (i,.no) :: σ)) (hle:n≤ds.length) (hx:ev σ x=some (.k i):=by rfl) (hi:aj σ i=some (.tk (.row z e ds)):=by rfl) (hf:aj σ (10000+d)=none:=by rfl) (hy:ev σ y=some s:=by rfl) (hn:s.int? = some (n:Int):=by rfl) (he:elem? P ty'=some e':=by rfl) (hz:sizeOf? P e'=some z:=by rfl) (hg:gst ops σ g=some (true,gk):=by rfl) (hN:Nat.blt d N=true:=by rfl) (hs:aE ((10000+d,.tk (.row z e (ds.take n))) :: (i,.no) :: σ) d=true:=by rfl) (hu:(Nat.beq (10000+d) d || Nat.beq i d || Nat.beq i (10000+d))=false:=by rfl):Der P ops W0 N Fin (⟨some d,.slice ty' x none (some y) none,ty,pos,after,g⟩ :: os) us pk fk σ:=by
 simp only [Bool.or_eq_false_iff] at hu
 refine js (.k (10000+d)) (i :: (10000+d) :: (kx x++kx y)) [(10000+d,.tk (.row z e (ds.take n))),(i,.no)] (fun σ' c a w hk hc=>?_) h hg hN hs (by simp [hu.1.1,hu.1.2])
 have hi':=(hk i (by simp)).trans hi
 obtain ⟨hA,hT,hti⟩:=hc.tok i _ hi'
 obtain ⟨_,h1⟩:=am hc (ab hx (fun κ hκ=>hk κ (by simp [hκ])))
 have h2:=cZ hn (am hc (ab hy (fun κ hκ=>hk κ (by simp [hκ]))))
 have fin:∃v,(execOp a.eval ⟨some d,.slice ty' x none (some y) none,ty,pos,after,g⟩).run P w=.ok (.value v) w∧(Tk.row z e (ds.take n)).ok c w v (c.T i):=by
  rcases hT with ⟨hd,a0,hv⟩|⟨cells,h3,h4,h5⟩
  ·subst hd
   have hn0:n=0:=by simpa using hle
   subst hn0
   exact ⟨_,kw he hz (h1.trans hv) h2 (Nat.le_refl _),.inl ⟨rfl,_,rfl⟩⟩
  rcases h3.2 with ⟨hv,hn0⟩|⟨gb,cap,cur,hv,q1,q2,q3,q4,q5,q6⟩
  ·have hn1:n=0:=by omega
   subst hn1
   exact ⟨_,kw he hz (h1.trans hv) h2 (Nat.le_refl _),.inl ⟨rfl,_,rfl⟩⟩
  ·have hlen:(ds.take n).length=n:=by rw [List.length_take];omega
   have hmul:n * z≤ds.length * z:=Nat.mul_le_mul_right z hle
   have hcl:=h3.1
   refine ⟨.slice (some ⟨gb,0,none⟩) n cap,?_,.inr ⟨cells.take (n * z),?_,fun b hb=>?_,fun j hj=>?_⟩⟩
   ·rw [kw he hz (h1.trans hv) h2 (by omega)]
    congr 3
    split
    ·rfl
    ·simp [Addr.add]
   ·rw [hlen]
    refine ⟨by rw [List.length_take];omega,.inr ⟨gb,cap,cur,rfl,q1,q2,by omega,q4,q5,?_⟩⟩
    rw [← q6,List.take_take,Nat.min_eq_left hmul]
   ·exact h4 b (by rw [hv];exact hb)
   ·rw [hlen] at hj
    obtain ⟨cs,e1,e2,e3⟩:=h5 j (by omega)
    refine ⟨cs,e1,by rw [List.getElem_take];exact e2,fun t u ht=>?_⟩
    have htz:t<z:=by
     rcases Nat.lt_or_ge t z with h|h
     ·exact h
     ·rw [List.getElem?_eq_none (by omega)] at ht;cases ht
    have:=Nat.mul_le_mul_right z (show j+1≤n from hj)
    rw [Nat.succ_mul] at this
    rw [List.getElem?_take,if_pos (by omega)]
    exact e3 t u ht
 obtain ⟨v,hrun,hok⟩:=fin
 have h6:=hc.eff (τ:=[]) hi' (Chg.rfl' (w:=w)) c.F (fun _ h=>h) (fun b hb=>.inl hb) (fun b hb=>hc.lt b hb)
 have h7:=h6.new (i:=10000+d) (t:=.row z e (ds.take n)) (v:=v) (S:=c.T i) (by rw [aa,if_neg (fun e=>by rw [e] at hu;simp at hu)];exact (hk _ (by simp)).trans hf) hok (fun b hb=>⟨(hti b hb).1,(hti b hb).2.1,(hti b hb).2.2⟩) (fun j t hj b hb=>by
  rw [aa] at hj
  split at hj
  ·cases hj
  ·rename_i hne
   exact hc.off i j _ t hi' hj hne b hb)
 unfold Oper.wp
 rw [hrun]
 exact ⟨_,_,rfl,h7,.inr rfl,(if_pos rfl).symm⟩
theorem zm {w:World} {S:BS}:∀(z:Nat) (cs:List Value),cs.length=z→(∀u∈cs,u.oneCell'=true)→RpL w S (List.replicate z .any) cs:=by
 intro z
 induction z with
 | zero=>intro cs h _;rw [List.eq_nil_of_length_eq_zero h];rfl
 | succ z ih=>
  intro cs h h1
  cases cs with
  | nil=>cases h
  | cons u cs=>exact ⟨[u],cs,rfl,⟨u,rfl,h1 u (List.mem_cons_self ..)⟩,ih cs (by simpa using h) (fun v hv=>h1 v (List.mem_cons_of_mem _ hv))⟩
theorem HJ {z:Array Value} {n:Nat} (hz:0<z.size) (h:∀u∈z.toList,u.oneCell'=true):∀u∈(Builtin.zeroCells z n).toList,u.oneCell'=true:=fun u hu=>by
 unfold Builtin.zeroCells at hu
 simp only [Array.toList_map,List.mem_map] at hu
 obtain ⟨j,_,rfl⟩:=hu
 have hj:=Nat.mod_lt j hz
 rw [getElem!_pos z _ hj]
 exact h _ (by simp)
theorem Hn (z:Array Value) (n:Nat):(Builtin.zeroCells z n).toList.length=n * z.size:=by unfold Builtin.zeroCells;simp
theorem A1 {P:Program} {e:Nat} {ti:TypeInfo} {zv:Value} (hti:P.info? e=some ti) (htz:ti.zero=some zv) (w:World):(zeroValue e).run P w=.ok zv w:=by
 have:(typeInfo e).run P w=.ok ti w:=by
  unfold typeInfo
  simp only [Sem.run_bind,show (program).run P w=.ok P w from rfl,Result.andThen_ok,hti]
  rfl
 unfold zeroValue
 simp only [Sem.run_bind,this,Result.andThen_ok,htz]
 rfl
theorem xt {P:Program} (w:World) (t e ty:TypeId) (zv:Value) (ht:P.underlying t=some (.slice e)) (hv:∀w,(zeroValue e).run P w=.ok zv w) (b o n c:Nat) (hn:0<n)
 (h1:∀u∈(Builtin.zeroCells zv.cells n).toList,u.oneCell'=true) (hc:∀j,j<(Builtin.zeroCells zv.cells n).toList.length→(w.cell? ⟨b,o+j,none⟩).isSome=true) (hf:∀j,j<(Builtin.zeroCells zv.cells n).toList.length→w.frozen? ⟨b,o+j,none⟩=false) :
 (Builtin.clear_ #[t] ty #[.slice (some ⟨b,o,none⟩) n c]).run P w=.ok (.tuple #[]) (py w b o (Builtin.zeroCells zv.cells n).toList):=by
 have hst:=run_storeCells_cells (P:=P) b o (Builtin.zeroCells zv.cells n).toList 0 w (by simpa using hc) (by simpa using hf) h1
 simp only [Nat.add_zero] at hst
 rw [gP] at hst
 obtain ⟨m,rfl⟩:∃m,n=m+1:=⟨n - 1,by omega⟩
 simp [Builtin.clear_,run_underlying ht,hv,hst]
theorem Gl {x:Operand} {i z n e:Nat} {ds:List D} {ti:TypeInfo} {zv:Value} (h:Der P ops W0 N Fin os (us++[((gk++(i :: kx x))++pk,([i])++fk)]) [] [] ((i,.tk (.row z e (ds.take n++List.replicate (ds.length - n) (.t (List.replicate z .any))))) :: σ)) (hlt:n<ds.length) (hx:ev σ x=some (.sl i n z):=by rfl) (hi:aj σ i=some (.tk (.row z e ds)):=by rfl) (he:elem? P ty'=some e:=by rfl) (hti:P.info? e=some ti:=by rfl) (htz:ti.zero=some zv:=by rfl) (hzs:zv.cells.size=z:=by rfl) (hz0:Nat.blt 0 z=true:=by rfl) (h1:(zv.cells.toList.all (·.oneCell'))=true:=by rfl) (hg:gst ops σ g=some (true,gk):=by rfl):Der P ops W0 N Fin (⟨none,.call { callee:=.builtin .clear,args:=[x].toArray,argTypes:=#[ty'] },ty,pos,after,g⟩ :: os) us pk fk σ:=
 kP (i :: kx x) [(i,.tk (.row z e (ds.take n++List.replicate (ds.length - n) (.t (List.replicate z .any)))))] (fun σ' c a w hk hc=>by
  have hz0:=Nat.blt_eq.mp hz0
  have hi':=(hk i (by simp)).trans hi
  obtain ⟨hA,b,m,cp,e1,e2⟩:=am hc (ab hx (fun κ hκ=>hk κ (by simp [hκ])))
  obtain ⟨_,hT,hti'⟩:=hc.tok i _ hi'
  rcases hT with ⟨hd,_⟩|⟨cells,own,hS,hel⟩
  ·subst hd;exact absurd hlt (Nat.not_lt_zero _)
  have hm:m=ds.length:=by
   rcases own.2 with ⟨_,hn0⟩|⟨gb,cap,cur,hv0,_⟩
   ·rw [hn0] at hlt;exact absurd hlt (Nat.not_lt_zero _)
   ·rw [e1] at hv0;cases hv0;rfl
  subst hm
  have hb:c.T i b:=hS b (by rw [e1];rfl)
  rw [e1] at own
  have hcl:=own.1
  generalize hzz:(Builtin.zeroCells zv.cells (ds.length - n)).toList=zs at *
  have hzl:zs.length=(ds.length - n) * z:=by rw [← hzz,Hn,hzs]
  have hz1:∀u∈zs,u.oneCell'=true:=by
   rw [← hzz]
   exact HJ (by rw [hzs];exact hz0) (fun u hu=>List.all_eq_true.1 h1 u hu)
  have hsum:n * z+zs.length=ds.length * z:=by rw [hzl,← Nat.add_mul];congr 1;omega
  have hrun:=xt (P:=P) w ty' e ty zv (dz he) (A1 hti htz) b (n * z) (ds.length - n) (cp - n) (by omega) (by rw [hzz];exact hz1) (fun j hj=>by
   rw [hzz] at hj
   rw [World.ownsRow.cellAt (h:=own) (n * z+j) (by omega),List.getElem?_eq_getElem (by omega)];rfl) (fun j hj=>World.ownsRow.frozenAt (h:=own) (n * z+j))
  rw [hzz] at hrun
  obtain ⟨q7,q8⟩:=zq zs w (n * z) cells own
  have hex:(execOp a.eval ⟨none,.call { callee:=.builtin .clear,args:=[x].toArray,argTypes:=#[ty'] },ty,pos,after,g⟩).run P w=.ok (.value (.tuple #[])) (py w b (n * z) zs):=by
   have h9:(Builtin.clear_ #[ty'] ty #[a.eval x]).run P w=.ok (.tuple #[]) (py w b (n * z) zs):=by rw [e2];exact hrun
   generalize a.eval=ρ at *
   simp [execOp,resolve,invoke,builtin,h9,Result.andThen]
  unfold Oper.wp
  rw [hex]
  refine ⟨rfl,c,hc.upd2 hi' (Chg.grown q8 (fun g hg=>by cases hg;exact hb)) (fun hag=>.inr ⟨jD cells (n * z) zs,?_,fun g hg=>hS g hg,fun j hj=>?_⟩)⟩
  ·rw [e1,show (ds.take n++List.replicate (ds.length - n) (D.t (List.replicate z D.any))).length=ds.length by rw [List.length_append,List.length_take,List.length_replicate];omega]
   exact q7
  ·rw [List.length_append,List.length_take,List.length_replicate] at hj
   by_cases hjn:j<n
   ·obtain ⟨cs,r1,r2,r3⟩:=hel j (by omega)
    refine ⟨cs,r1,?_,fun t u ht=>?_⟩
    ·rw [List.getElem_append_left (by rw [List.length_take];omega),List.getElem_take];exact Rp.keep (fun _ h=>h) hag _ _ r2
    ·have htz:t<z:=by
      rcases Nat.lt_or_ge t z with h|h
      ·exact h
      ·rw [List.getElem?_eq_none (by omega)] at ht;cases ht
     have:=Nat.mul_le_mul_right z (show j+1≤n from hjn)
     rw [Nat.succ_mul] at this
     rw [iq _ _ _ _ (.inl (by omega))]
     exact r3 t u ht
   ·have hjz:(j - n) * z+z≤zs.length:=by
     rw [hzl,← Nat.succ_mul];exact Nat.mul_le_mul_right z (by omega)
    refine ⟨(zs.drop ((j - n) * z)).take z,by rw [List.length_take,List.length_drop];omega,?_,fun t u ht=>?_⟩
    ·rw [List.getElem_append_right (by rw [List.length_take];omega),List.getElem_replicate]
     exact zm z _ (by rw [List.length_take,List.length_drop];omega) (fun u hu=>hz1 u (List.mem_of_mem_drop (List.mem_of_mem_take hu)))
    ·rw [List.getElem?_take] at ht
     split at ht
     ·rename_i htz
      rw [List.getElem?_drop] at ht
      have e5:j * z+t=n * z+((j - n) * z+t):=by
       have:j * z=n * z+(j - n) * z:=by rw [← Nat.add_mul];congr 1;omega
       omega
      rw [e5]
      exact jd zs cells (n * z) _ u (by omega) ht
     ·cases ht) h hg
end
def A6 (W0:bN) (e:Nat) (l:List CB):Ending→World→Prop:=fun en w'=>∃(u:Value) (S':BS),en=.returned u∧Chg W0.M W0.w w'∧(∀b,S' b→(W0.M b∨W0.w.heap.size≤b)∧b<w'.heap.size)∧(Tk.row 9 e (l.map cbD)).ok (Cx.of W0.F) w' u S'
theorem GL {c c':Cx} {w:World} {e:Nat} {l:List CB} {v:Value} {S:BS} (h:(Tk.row 9 e (l.map cbD)).ok c w v S):(Tk.row 9 e (l.map cbD)).ok c' w v S:=by
 rcases h with h|⟨cells,h1,h2,h3⟩
 ·exact .inl h
 ·refine .inr ⟨cells,h1,h2,fun j hj=>?_⟩
  obtain ⟨cs,e1,e2,e3⟩:=h3 j hj
  exact ⟨cs,e1,xl _ _ (by rw [List.getElem_map];rfl) e2,e3⟩
theorem EI {P:Program} {W0:bN} {N:Nat} {σ:Env} {fn:Func} {t i e:Nat} {ds:List D} {l:List CB} (hd:ds=l.map cbD) (hr:fn.results = #[.tmp t]:=by rfl) (hi:ev σ (.tmp t)=some (.k i):=by rfl) (hl:aj σ i=some (.tk (.row 9 e ds)):=by rfl):At W0 N σ .ret (bodyPost P fn (A6 W0 e l)):=fun a w hh=>by
 subst hd
 obtain ⟨c,h⟩:=hh
 obtain ⟨_,hv⟩:=am h hi
 obtain ⟨_,hT,h4⟩:=h.tok i _ hl
 exact bodyPost_ret (results_tmp hr _ _ _) h.defers ⟨_,c.T i,rfl,h.ext,fun b hb=>⟨(h4 b hb).2.2,(h4 b hb).2.1⟩,by
  have hv':a.tmps.getD t undef=c.ρ i:=hv
  rw [hv'];exact GL hT⟩
def Cel.of (cs:List Value):Cel:=⟨cs.getD 0 undef,cs.getD 1 undef,cs.getD 2 undef,cs.getD 3 undef,cs.getD 4 undef,cs.getD 5 undef,cs.getD 6 undef,cs.getD 7 undef,cs.getD 8 undef⟩
theorem Cel.of_cells {cs:List Value} (h:cs.length=9):(Cel.of cs).cells=cs:=by
 match cs,h with
 | [a,b,c,d,e,f,g,h,i],_=>rfl
structure Elt where
 cs:List Value
 d:D
 T:BS
def Elt.ok (w:World) (x:Elt):Prop:=x.cs.length=9∧Ow w x.d x.T x.cs
theorem Bx {c:Cx} {w:World} {e:Nat} {ds:List D} {v:Value} {S:BS} (h:(Tk.grw 9 e ds).ok c w v S) (q:D→Bool):∃M:List Elt,M.map Elt.d=ds∧(∀x∈M,x.ok w∧∀b,x.T b→S b∧b<w.heap.size∧v.ownBlock≠some b)∧M.Pairwise (fun x y=>∀b,x.T b→¬y.T b)∧∀c':Cx,(Tk.row 9 e ((M.map fun x=>(Cel.of x.cs,q x.d)).map cbD)).ok c' w v (fun b=>v.ownBlock=some b∧S b):=by
 rcases h with ⟨rfl,a,rfl⟩|⟨cells,T,own,h3,h4,h5,h6⟩
 ·exact ⟨[],rfl,fun x hx=>(by cases hx),List.Pairwise.nil,fun c'=>.inl ⟨rfl,a,rfl⟩⟩
 ·have key:∀n,n≤ds.length→∃M:List Elt,M.length=n∧M.map Elt.d=ds.take n∧(∀j (hj:j<M.length),∃hj2:j<ds.length,(M[j]).d=ds[j]∧(M[j]).T=T j∧(M[j]).cs.length=9∧Ow w ds[j] (T j) (M[j]).cs∧∀t u,(M[j]).cs[t]? = some u→cells[j * 9+t]? = some u):=by
   intro n
   induction n with
   | zero=>intro _;exact ⟨[],rfl,rfl,fun j hj=>absurd hj (Nat.not_lt_zero _)⟩
   | succ n ih=>
    intro hn
    obtain ⟨M,rfl,m2,m3⟩:=ih (by omega)
    obtain ⟨cs,q1,q2,q3⟩:=h6 M.length (by omega)
    refine ⟨M++[⟨cs,ds[M.length],T M.length⟩],by simp,by rw [List.map_append,m2,List.take_succ_eq_append_getElem (by omega)];rfl,fun j hj=>?_⟩
    rw [List.length_append,List.length_singleton] at hj
    by_cases hjn:j<M.length
    ·simp only [List.getElem_append_left hjn];exact m3 j hjn
    ·have e:j=M.length:=by omega
     subst e
     have hx:(M++[(⟨cs,ds[M.length],T M.length⟩:Elt)])[M.length]'(by simp)=⟨cs,ds[M.length],T M.length⟩:=by simp
     exact ⟨by omega,by rw [hx],by rw [hx],by rw [hx];exact q1,by rw [hx];exact q2,by rw [hx];exact q3⟩
  obtain ⟨M,m1,m2,m3⟩:=key ds.length (Nat.le_refl _)
  rw [List.take_length] at m2
  refine ⟨M,m2,fun x hx=>?_,?_,fun c'=>.inr ⟨cells,?_,fun g hg=>⟨hg,(h3 g hg).1⟩,fun j hj=>?_⟩⟩
  ·obtain ⟨j,hj,rfl⟩:=List.mem_iff_getElem.1 hx
   obtain ⟨h7,e1,e2,e3,e4,e5⟩:=m3 j hj
   refine ⟨⟨e3,by rw [e1,e2];exact e4⟩,fun b hb=>?_⟩
   rw [e2] at hb
   exact ⟨(h4 j b hb).1,(h4 j b hb).2,fun ho=>(h3 b ho).2 j hb⟩
  ·rw [List.pairwise_iff_getElem]
   intro i j hi hj hij b hb hb'
   rw [(m3 i hi).2.2.1] at hb
   rw [(m3 j hj).2.2.1] at hb'
   exact h5 i j (by omega) b hb hb'
  ·rw [List.length_map,List.length_map,m1];exact own
  ·rw [List.length_map,List.length_map] at hj
   obtain ⟨h7,e1,e2,e3,e4,e5⟩:=m3 j hj
   refine ⟨(M[j]).cs,e3,?_,e5⟩
   rw [List.getElem_map,List.getElem_map]
   have:=Hj (w:=w) (S:=c'.F) (Cel.of (M[j]).cs) (by rw [Cel.of_cells e3];exact Rp.one _ _ (Ow.rp _ _ _ e4))
   rw [Cel.of_cells e3] at this
   exact this
theorem Dn {c:Cx} {w:World} {e:Nat} {M:List Elt} {v:Value} {S S':BS} (q:D→Bool) (hM:∀x∈M,x.ok w∧∀b,x.T b→S b∧b<w.heap.size∧v.ownBlock≠some b) (hd:M.Pairwise (fun x y=>∀b,x.T b→¬y.T b)) (hS:∀b,S' b→S b) (h:(Tk.row 9 e ((M.map fun x=>(Cel.of x.cs,q x.d)).map cbD)).ok c w v S'):(Tk.grw 9 e (M.map Elt.d)).ok c w v S:=by
 rcases h with ⟨h1,h2⟩|⟨cells,own,h2,h3⟩
 ·rw [List.map_eq_nil_iff,List.map_eq_nil_iff] at h1
  subst h1
  exact .inl ⟨rfl,h2⟩
 ·rw [List.length_map,List.length_map] at own
  refine .inr ⟨cells,fun j=>if hj:j<M.length then (M[j]).T else fun _=>False,by rw [List.length_map];exact own,fun g hg=>⟨hS g (h2 g hg),fun j hj=>?_⟩,fun j b hb=>?_,fun i j hij b hb hb'=>?_,fun j hj=>?_⟩
  ·dsimp only at hj
   split at hj
   ·rename_i h4
    exact ((hM _ (List.getElem_mem h4)).2 g hj).2.2 hg
   ·exact hj
  ·dsimp only at hb
   split at hb
   ·rename_i h4
    have:=(hM _ (List.getElem_mem h4)).2 b hb
    exact ⟨this.1,this.2.1⟩
   ·exact hb.elim
  ·dsimp only at hb hb'
   split at hb
   ·rename_i h4
    split at hb'
    ·rename_i h5
     rcases Nat.lt_or_gt_of_ne hij with h6|h6
     ·exact List.pairwise_iff_getElem.1 hd i j h4 h5 h6 b hb hb'
     ·exact List.pairwise_iff_getElem.1 hd j i h5 h4 h6 b hb' hb
    ·exact hb'
   ·exact hb
  ·rw [List.length_map] at hj
   have hok:=(hM _ (List.getElem_mem hj)).1
   obtain ⟨cs,e1,e2,e3⟩:=h3 j (by rw [List.length_map,List.length_map];exact hj)
   rw [List.getElem_map,List.getElem_map] at e2
   have e4:=Ej e2
   rw [Cel.of_cells hok.1] at e4
   subst e4
   refine ⟨(M[j]).cs,e1,?_,e3⟩
   have hTj:(fun j=>if hj:j<M.length then (M[j]).T else fun _=>False) j=(M[j]).T:=dif_pos hj
   rw [hTj,List.getElem_map]
   exact hok.2
theorem Chg.weak {S S':BS} {w w':World} (h:Chg S w w') (hS:∀b,S b→S' b):Chg S' w w':=⟨h.os,h.tape,h.output,h.size,fun b hb hn=>h.block b hb (fun hs=>hn (hS b hs))⟩
theorem xb {P:Program} {ops:Array Oper} {W0:bN} {N:Nat} {Fin:Us→Env→Prop} {os:List Oper} {us:Us} {pk fk:List Nat} {σ:Env} {g:Option (Nat × Bool)} {gk:List Nat} {d ty f:Nat} {pos:String} {after:Array Edge} {at':Array TypeId} {x t:Operand} {i e g0:Nat} {ds cs:List D} (q:D→Bool) (h:Der P ops W0 N Fin os (us++[((d :: (gk++(i :: (10000+d) :: (kx x++kx t))))++pk,([d,10000+d,i])++fk)]) [] [] ((d,.sy (.k (10000+d))) :: (10000+d,.tk (.grw 9 e (ds.filter fun y=>!q y))) :: (i,.no) :: σ)) (hge:∀args w,(callFunc g0 args).run P w=.ok (.enter g0 args) w) (hq:∀y∈ds,(∃es,y=.t es)∧FnD P g0 (y :: cs) (.d (.b (q y)))) (hl:ds.length≤1000000) (hx:ev σ x=some (.k i):=by rfl) (hi:aj σ i=some (.tk (.grw 9 e ds)):=by rfl) (hn:aj σ (10000+d)=none:=by rfl) (ht:ev σ t=some (.d (.f g0 cs)):=by rfl) (hct:(cs.all fun r=>!isT r)=true:=by rfl) (hf:Hp P f e:=by assumption) (hg:gst ops σ g=some (true,gk):=by rfl) (hN:Nat.blt d N=true:=by rfl) (hs:aE ((10000+d,.tk (.grw 9 e (ds.filter fun y=>!q y))) :: (i,.no) :: σ) d=true:=by rfl) (hu:(Nat.beq (10000+d) d || Nat.beq i d || Nat.beq i (10000+d))=false:=by rfl):Der P ops W0 N Fin (⟨some d,.call { callee:=.value (.func f),args:=[x,t].toArray,argTypes:=at' },ty,pos,after,g⟩ :: os) us pk fk σ:=by
 simp only [Bool.or_eq_false_iff] at hu
 refine js (.k (10000+d)) (i :: (10000+d) :: (kx x++kx t)) [(10000+d,.tk (.grw 9 e (ds.filter fun y=>!q y))),(i,.no)] (fun σ' c a w hk hc=>?_) h hg hN hs (by simp [hu.1.1,hu.1.2])
 have hi':=(hk i (by simp)).trans hi
 obtain ⟨hA,hT,hti⟩:=hc.tok i _ hi'
 obtain ⟨_,hv⟩:=am hc (ab hx (fun κ hκ=>hk κ (by simp [hκ])))
 obtain ⟨cv,hv2,hcv⟩:=am hc (ab ht (fun κ hκ=>hk κ (by simp [hκ])))
 have hv3:a.eval t=.func (.func g0) #[] cv.toArray:=(List.cons.inj hv2).1
 obtain ⟨M,rfl,m2,m3,m4⟩:=Bx hT q
 have hS1:∀b,((c.ρ i).ownBlock=some b∧c.T i b)→¬c.F b∧b<w.heap.size:=fun b hb=>⟨(hti b hb.2).1,(hti b hb.2).2.1⟩
 have hp:ni P g0 cv w (fun b=>(c.ρ i).ownBlock=some b∧c.T i b) (M.map fun x=>(Cel.of x.cs,q x.d)):=by
  refine ⟨hge,fun z hz w' hw=>?_⟩
  obtain ⟨y,hy,rfl⟩:=List.mem_map.1 hz
  obtain ⟨⟨y1,y2⟩,y3⟩:=m2 y hy
  obtain ⟨⟨es,hes⟩,hfn⟩:=hq y.d (List.mem_map.2 ⟨y,hy,rfl⟩)
  dsimp only
  rw [Cel.of_cells y1]
  have hagF:eV c.F w w':=fun b hb hl=>hw.block b hl (fun hs=>(hS1 b hs).1 hb)
  have hagT:eV y.T w w':=fun b hb hl=>hw.block b hl (fun hs=>(y3 b hb).2.2 hs.1)
  rw [hes] at y2 hfn
  rw [hes]
  have r1:RpL w y.T es y.cs:=Ow.rp (.t es) _ _ y2
  refine (hfn.calls (fun b=>c.F b∨y.T b) w' (.agg y.cs.toArray :: cv) ⟨_,_,rfl,⟨_,rfl,RpL.keep (fun b hb=>.inr hb) hagT _ _ r1⟩,DVs.keepS (fun b hb=>.inl hb) hagF _ _ (vA _ _ hct hcv)⟩ (fun b hb=>hb.elim (fun h=>Nat.lt_of_lt_of_le (hc.lt b h) hw.size) (fun h=>Nat.lt_of_lt_of_le (y3 b h).2.1 hw.size))).mono ?_
  rintro en w2 ⟨v,rfl,hX,hv⟩
  exact ⟨by rw [(List.cons.inj (show [v] = [Value.bool (q (.t es))] from hv)).1],hX⟩
 unfold Oper.wp
 rw [bE hf.enter rfl]
 show Calls P f (#[a.eval x,a.eval t]) w _
 rw [hv,hv3]
 refine (hf.calls c.F _ w (c.ρ i) g0 cv _ (m4 (Cx.of c.F)) hp hc.lt hS1 (by rw [List.length_map] at hl ⊢;exact hl)).mono ?_
 rintro en w' ⟨u,S',rfl,hch,hS',hrow⟩
 rw [List.filter_map] at hrow
 rw [List.filter_map]
 have hcT:=hch.weak (S':=c.T i) (fun b hb=>hb.2)
 have h1:=hc.eff (τ:=[]) hi' hcT c.F (fun _ h=>h) (fun b hb=>.inl hb) (fun b hb=>Nat.lt_of_lt_of_le (hc.lt b hb) hcT.size)
 have hok:(Tk.grw 9 e ((M.filter ((fun y=>!q y) ∘ Elt.d)).map Elt.d)).ok c w' u (fun b=>c.T i b∨S' b):=by
  have e0:M.filter ((fun x:CB=>!x.2) ∘ fun x=>(Cel.of x.cs,q x.d))=M.filter ((fun y=>!q y) ∘ Elt.d):=rfl
  rw [e0] at hrow
  rcases hrow with ⟨h2,h3⟩|h2
  ·rw [List.map_eq_nil_iff,List.map_eq_nil_iff] at h2
   rw [h2]
   exact .inl ⟨rfl,h3⟩
  ·obtain ⟨cells,o1,o2,o3⟩:=h2
   refine Dn q (fun y hy=>?_) (m3.sublist List.filter_sublist) (fun b hb=>.inr hb) (S':=S') (.inr ⟨cells,o1,o2,o3⟩)
   obtain ⟨⟨y1,y2⟩,y3⟩:=m2 y (List.mem_filter.1 hy).1
   have hagT:eV y.T w w':=fun b hb hl=>hch.block b hl (fun hs=>(y3 b hb).2.2 hs.1)
   refine ⟨⟨y1,Ow.keep hch.size _ _ _ _ (fun _ h=>h) hagT y2⟩,fun b hb=>⟨.inl (y3 b hb).1,Nat.lt_of_lt_of_le (y3 b hb).2.1 hch.size,fun ho=>?_⟩⟩
   rcases (hS' b (o2 b ho)).1 with h5|h5
   ·exact (y3 b hb).2.2 h5.1
   ·exact absurd (y3 b hb).2.1 (Nat.not_lt.2 h5)
 have h2:=h1.new (i:=10000+d) (t:=.grw 9 e ((M.filter ((fun y=>!q y) ∘ Elt.d)).map Elt.d)) (v:=u) (S:=fun b=>c.T i b∨S' b) (by rw [aa,if_neg (fun e=>by rw [e] at hu;simp at hu)];exact (hk _ (by simp)).trans hn) hok (fun b hb=>by
  rcases hb with hb|hb
  ·exact ⟨(hti b hb).1,Nat.lt_of_lt_of_le (hti b hb).2.1 hch.size,(hti b hb).2.2⟩
  ·rcases (hS' b hb).1 with h5|h5
   ·exact ⟨(hti b h5.2).1,(hS' b hb).2,(hti b h5.2).2.2⟩
   ·exact ⟨fun hF=>absurd (hc.lt b hF) (Nat.not_lt.2 h5),(hS' b hb).2,.inr (Nat.le_trans hc.ext.size h5)⟩) (fun j t hj b hb=>by
  rw [aa] at hj
  split at hj
  ·cases hj
  ·rename_i hne
   rcases hb with hb|hb
   ·exact hc.off i j _ t hi' hj hne b hb
   ·rcases (hS' b hb).1 with h5|h5
    ·exact hc.off i j _ t hi' hj hne b h5.2
    ·exact fun hTj=>absurd ((hc.tok j t hj).2.2 b hTj).2.1 (Nat.not_lt.2 h5))
 exact ⟨u,_,rfl,h2,.inr rfl,(if_pos rfl).symm⟩
end Go.Proofs.YtacafmejcdgboaaGreatDoor
namespace Go.Proofs.YtacafmejcdgboaaGreatDoor
open Go.RowKit
set_option linter.unusedVariables false
set_option linter.unusedSimpArgs false
set_option maxRecDepth 100000
set_option maxHeartbeats 4000000
attribute [local irreducible] ar Der At
theorem uH:Jp Tryz.prog 120:=⟨bS Tryz.func120,fun F w v g cv l hv hp hF hl=>by
 refine (By Tryz.func120 (Post:=post ⟨w,F⟩ (.d (.i (lc Prod.snd l)))) ?_ rfl rfl rfl hv hF).mono ?_
 rotate_left
 ·rintro en w' ⟨v,rfl,hX,hv,_⟩
  exact ⟨by rw [(List.cons.inj hv).1],hX⟩
 refine kgo ?_
 refine ai [0,1,7] (fun i:Nat=>i≤l.length∧(l.take i).any Prod.snd=false) (fun i=>l.length - i) (fun i=>[(8,.sy (.d (.i i)))]) 0 ⟨Nat.zero_le _,rfl⟩ (fun i hx=>?_)
 obtain ⟨hi,hb⟩:=hx
 refine kgo ?_
 refine aL (fun h=>?_) (fun h=>?_)
 ·have hlt:i<l.length:=by omega
  refine kgo ?_
  refine zx l[i] hp (List.getElem_mem hlt) ?_
  refine kgo ?_
  cases h2:(l[i]).2
  ·refine kgo ?_
   exact af (i+1) ⟨hlt,kI hlt hb h2⟩ (by omega)
  rw [mG hlt h2 hb]
  refine kgo ?_
  exact aq (W0:=⟨w,F⟩)
 rw [kh (mY (by omega) hb)]
 refine kgo ?_
 exact aq (W0:=⟨w,F⟩)⟩
theorem xc {l:List CB} (h:l.any Prod.snd=false):l.filter (fun x=>!x.2)=l:=List.filter_eq_self.2 (fun x hx=>by have:=List.any_eq_false.1 h x hx;simpa using this)
theorem sE:Hp Tryz.prog 66 118:=⟨bS Tryz.func66,fun F S w v g cv l hv hp hF hS hl=>by
 have f0:=uH
 have hI:=ex Prod.snd l
 refine BE Tryz.func66 (Post:=A6 ⟨w,F,S⟩ 118 (l.filter fun x=>!x.2)) ?_ rfl rfl rfl hv hF hS
 refine kgo ?_
 refine Gg hp hl ?_ (by unfold I64;omega)
 refine kgo ?_
 refine aL (fun h=>?_) (fun h=>?_)
 ·have hno:l.any Prod.snd=false:=by
   cases ha:l.any Prod.snd with
   | false=>rfl
   | true=>unfold lc at h;rw [ha,if_pos rfl] at h;omega
  refine kgo ?_
  exact EI (by rw [xc hno])
 obtain ⟨i0,h0,hi0,hx0,hb0⟩:∃(i0:Nat) (h0:i0<l.length),lc Prod.snd l=i0∧(l[i0]).2=true∧(l.take i0).any Prod.snd=false:=by
  cases ha:l.any Prod.snd with
  | false=>exact absurd (kh ha) h
  | true=>
   have hl0:=List.findIdx_lt_length_of_exists (List.any_eq_true.1 ha)
   refine ⟨l.findIdx Prod.snd,hl0,by unfold lc;rw [ha,if_pos rfl],List.findIdx_getElem (w:=hl0),List.any_eq_false.2 (fun x hx=>?_)⟩
   obtain ⟨j,hj,rfl⟩:=List.mem_iff_getElem.1 hx
   rw [List.length_take] at hj
   rw [List.getElem_take]
   have:=List.not_of_lt_findIdx (xs:=l) (p:=Prod.snd) (i:=j) (by omega)
   simpa using this
 rw [hi0]
 refine kgo ?_
 refine ai [0,1] (fun x:Nat × Nat × List CB=>x.2.1<x.1∧x.1≤l.length∧x.2.2.length=l.length∧x.2.2.take x.2.1=(l.take x.1).filter (fun y=>!y.2)∧x.2.2.drop x.1=l.drop x.1) (fun x=>l.length - x.1) (fun x=>[(6,.sy (.d (.i x.1))),(5,.sy (.d (.i x.2.1))),(20000,.tk (.row 9 118 (x.2.2.map cbD)))]) (i0+1,i0,l) ⟨Nat.lt_succ_self _,h0,rfl,by rw [List.take_succ_eq_append_getElem h0,List.filter_append,xc hb0];simp [hx0],rfl⟩ (fun x hx=>?_)
 obtain ⟨j,i,L⟩:=x
 obtain ⟨hij,hj,hL,hk,hd⟩:=hx
 dsimp only at hij hj hL hk hd ⊢
 refine kgo ?_
 refine aL (fun h2=>?_) (fun h2=>?_)
 ·rw [List.length_map] at h2
  have hjl:j<l.length:=by omega
  have hjL:j<L.length:=by omega
  have hLj:L[j]=l[j]:=by
   have e1:=List.getElem?_drop (xs:=L) (i:=j) (j:=0)
   have e2:=List.getElem?_drop (xs:=l) (i:=j) (j:=0)
   rw [hd,e2,Nat.add_zero,List.getElem?_eq_getElem hjl,List.getElem?_eq_getElem hjL] at e1
   exact (Option.some.inj e1).symm
  have hd1:L.drop (j+1)=l.drop (j+1):=by rw [← List.drop_drop,← List.drop_drop,hd]
  have hf1:(l.take (j+1)).filter (fun y=>!y.2)=(l.take j).filter (fun y=>!y.2)++(if (l[j]).2 then [] else [l[j]]):=by
   rw [List.take_succ_eq_append_getElem hjl,List.filter_append]
   congr 1
   cases hb:(l[j]).2 <;> simp [hb]
  refine kgo ?_
  refine Ex (f:=cbD) (l:=L) ?_
  refine kgo ?_
  refine zx L[j] hp (by rw [hLj];exact List.getElem_mem hjl) ?_
  refine kgo ?_
  refine cIf (fun h3=>?_) (fun h3=>?_)
  ·rw [Bool.not_eq_true'] at h3
   have hLi:i<L.length:=by omega
   refine kgo ?_
   refine Fd (f:=cbD) (l:=L) L[j] ?_
   refine kgo ?_
   exact af (j+1,i+1,L.set i L[j]) ⟨Nat.succ_lt_succ hij,hjl,by rw [List.length_set];exact hL,by
    show (L.set i L[j]).take (i+1)=_
    rw [List.take_succ_eq_append_getElem (by rw [List.length_set];exact hLi),List.getElem_set_self,List.take_set,List.set_eq_of_length_le (by rw [List.length_take];omega),hk,hf1,← hLj,h3];rfl,by
    show (L.set i L[j]).drop (j+1)=_
    rw [List.drop_set_of_lt (by omega),hd1]⟩ (by show _ - (j+1)<_ - j;omega)
  rw [Bool.not_eq_false'] at h3
  refine kgo ?_
  exact af (j+1,i,L) ⟨Nat.lt_succ_of_lt hij,hjl,hL,by rw [hk,hf1,← hLj,h3];simp,hd1⟩ (by show _ - (j+1)<_ - j;omega)
 rw [List.length_map] at h2
 have hjl:j=l.length:=by omega
 subst hjl
 rw [List.take_of_length_le (Nat.le_refl _)] at hk
 refine kgo ?_
 refine Jg (n:=i) (ds:=L.map cbD) ?_ (by rw [List.length_map];omega)
 refine Gl (n:=i) (z:=9) (ds:=L.map cbD) ?_ (by rw [List.length_map];omega)
 refine kgo ?_
 refine IP (n:=i) (ds:=(L.map cbD).take i++List.replicate ((L.map cbD).length - i) (.t (List.replicate 9 .any))) ?_ (by rw [List.length_append,List.length_take,List.length_map];omega)
 refine kgo ?_
 refine EI (ds:=((L.map cbD).take i++List.replicate ((L.map cbD).length - i) (D.t (List.replicate 9 D.any))).take i) ?_
 rw [← hk,List.take_append_of_le_length (by rw [List.length_take,List.length_map];omega),List.take_take,Nat.min_self,List.map_take]⟩
end Go.Proofs.YtacafmejcdgboaaGreatDoor
namespace Go.Proofs.YtacafmejcdgboaaGreatDoor
open Go.RowKit
set_option linter.unusedVariables false
set_option linter.unusedSimpArgs false
def GS (d:D):WP:=fun w F v _=>DV w F d v
theorem FnD.yield {P:Program} {g:FuncId} {ds:List D} {d:D} {b:Bool} (h:FnD P g (ds++[d]) (.d (.b b))):FnY P g ds (GS d) (GS d) b:=
 ⟨h.enter,fun F S w v vs hp hv hF hS=>by
  have hd:DV w F d v:=hp.1 w F (fun _ h=>h) (Nat.le_refl _) (fun _ _ _=>rfl) (fun _ _ _=>rfl)
  refine (h.calls F w (vs++[v]) (Bm ds [d] vs [v] hv ⟨v,[],rfl,hd,rfl⟩) hF).mono ?_
  rintro en w' ⟨u,rfl,hX,hr⟩
  have hsz:=Below.size hX
  have hA:eV F w w':=fun b _ hb=>hX.block b hb
  have hF2:∀b,F b→frF w w' F S S b:=fun b hb=>⟨.inl hb,fun hs=>(hS b hs).1 hb,Nat.lt_of_lt_of_le (hF b hb) hsz⟩
  refine ⟨by rw [show u=.bool b from by have h1 : [u] = [.bool b]:=hr;exact (List.cons.inj h1).1],Chg.ext hX,S,fun b hb=>⟨.inl hb,Nat.lt_of_lt_of_le (hS b hb).2 hsz⟩,fun w2 F2 e1 e2 e3 e4=>?_,fun u hu=>by cases hu⟩
  exact DV.keep (fun b hb=>e1 b (hF2 b hb)) (fun b hb hl=>(e3 b (hF2 b hb) (Nat.lt_of_lt_of_le hl hsz)).trans (hA b hb hl)) hd⟩
theorem FnY.data {P:Program} {f g:FuncId} {ds:List D} {d:D} {b:Bool} (hd:isT d=false) (h:FnY P f ds (t8 g (GS d)) (t8 g (GS d)) b):FnD P f (ds++[.f g [d]]) (.d (.b b)):=
 ⟨h.enter,fun F w vs hv hF=>by
  obtain ⟨vs,us,rfl,h1,h2⟩:∃xs us,vs=xs++us∧DVs w F ds xs∧DVs w F [.f g [d]] us:=by
   clear h hF
   induction ds generalizing vs with
   | nil=>exact ⟨[],vs,rfl,rfl,hv⟩
   | cons r rs ih=>
    obtain ⟨v,t,rfl,h1,h2⟩:=hv
    obtain ⟨xs,us,rfl,h3,h4⟩:=ih t h2
    exact ⟨v :: xs,us,rfl,⟨v,xs,rfl,h1,h3⟩,h4⟩
  obtain ⟨v,t,rfl,h3,h4⟩:=h2
  cases (show t = [] from h4)
  obtain ⟨cv,h5,h6⟩:=h3
  have h5:v=.func (.func g) #[] cv.toArray:=(List.cons.inj h5).1
  obtain ⟨pv,t,rfl,h7,h8⟩:=vA [d] cv (by simp [hd]) h6
  cases (show t = [] from h8)
  refine (h.calls F (fun _=>False) w v vs ⟨fun w2 F2 e1 e2 e3 e4=>⟨pv,h5,DV.keep e1 e3 h7⟩,fun u hu=>by cases hu⟩ h1 hF (fun b hb=>hb.elim)).mono ?_
  rintro en w' ⟨rfl,h9,_⟩
  exact ⟨_,rfl,h9.toExt,rfl⟩⟩
section
variable {P:Program} {ops:Array Oper} {W0:bN} {N:Nat} {Fin:Us→Env→Prop} {os:List Oper} {us:Us} {pk fk:List Nat} {σ:Env} {g:Option (Nat × Bool)} {gk:List Nat} {d ty ty' f:Nat} {pos:String} {after:Array Edge} {at':Array TypeId}
theorem Jv {x y:Operand} {s t:Sy} {m n:Int} (h:Der P ops W0 N Fin os (us++[((d :: (gk++(kx x++kx y)))++pk,([d])++fk)]) [] [] ((d,.sy (.d (.i (if n > m then n else m)))) :: σ)) (hx:ev σ x=some s:=by rfl) (hy:ev σ y=some t:=by rfl) (hm:s.int? = some m:=by rfl) (hn:t.int? = some n:=by rfl) (hb:I64 m:=by first|assumption|(unfold I64;omega)) (hb2:I64 n:=by first|assumption|(unfold I64;omega)) (hg:gst ops σ g=some (true,gk):=by rfl) (hN:Nat.blt d N=true:=by rfl) (hs:aE σ d=true:=by rfl):Der P ops W0 N Fin (⟨some d,.call { callee:=.builtin .max,args:=#[x,y],argTypes:=at' },ty,pos,after,g⟩ :: os) us pk fk σ:=
 bO (.d (.i (if n > m then n else m))) (kx x++kx y) (fun σ' c a w hk hc=>by
  have h1:=cZ hm (am hc (ab hx (fun κ hκ=>hk κ (by simp [hκ]))))
  have h2:=cZ hn (am hc (ab hy (fun κ hκ=>hk κ (by simp [hκ]))))
  refine ⟨.int .i64 (if n > m then n else m),?_,⟨rfl,by split <;> assumption⟩⟩
  simp [execOp,resolve,invoke,builtin,h1,h2,Builtin.max_,Builtin.max2,Result.andThen]) h hg hN hs
theorem JC (i:Nat) {n:Int} {Q:Exit→Act→World→Prop} {x:Code} (h:ar P W0 N x ((i,.tk (.bx [.d (.i n)])) :: σ) Q) (hi:aj σ i=some (.tk (.bx [.v (.int .i64 n)])):=by rfl) (hn:I64 n:=by unfold I64;omega):ar P W0 N x σ Q:=fun a w hh=>by
 obtain ⟨c,hc⟩:=hh
 obtain ⟨hA,hT,hti⟩:=hc.tok i _ hi
 refine h a w ⟨_,hc.upd3 (F':=c.F) (S':=c.T i) hi Chg.rfl' (fun _ h=>h) (fun b hb=>⟨.inl hb,hc.lt b hb⟩) (fun b hb=>⟨.inl hb,(hti b hb).2.1,(hti b hb).1⟩) (fun _=>?_)⟩
 obtain ⟨b,us,h1,h2,h3,h4⟩:=hT
 obtain ⟨y,t,rfl,h5,h6⟩:=h3
 exact ⟨b,y :: t,h1,h2,⟨y,t,rfl,by rw [show y=.int .i64 n from h5];exact ⟨rfl,hn⟩,h6⟩,h4⟩
theorem IV {x y:Operand} {i z e e':Nat} {ds:List D} {s:Sy} {n:Nat} (h:Der P ops W0 N Fin os (us++[((d :: (gk++(i :: (kx x++kx y))))++pk,([d])++fk)]) [] [] ((d,.sy (.el i z n 0)) :: σ)) (hlt:n<ds.length) (hx:ev σ x=some (.k i):=by rfl) (hi:aj σ i=some (.tk (.grw z e ds)):=by rfl) (hy:ev σ y=some s:=by rfl) (hn:s.int? = some (n:Int):=by rfl) (he:elem? P ty'=some e':=by rfl) (hz:sizeOf? P e'=some z:=by rfl) (hg:gst ops σ g=some (true,gk):=by rfl) (hN:Nat.blt d N=true:=by rfl) (hs:aE σ d=true:=by rfl):Der P ops W0 N Fin (⟨some d,.indexAddr ty' x y,ty,pos,after,g⟩ :: os) us pk fk σ:=
 bO (.el i z n 0) (i :: (kx x++kx y)) (fun σ' c a w hk hc=>by
  obtain ⟨hA,h1⟩:=am hc (ab hx (fun κ hκ=>hk κ (by simp [hκ])))
  have h2:=cZ hn (am hc (ab hy (fun κ hκ=>hk κ (by simp [hκ]))))
  obtain ⟨_,hT,_⟩:=hc.tok i _ ((hk i (by simp)).trans hi)
  rcases hT with ⟨hd,_⟩|⟨cells,T,h3,_⟩
  ·subst hd;exact absurd hlt (Nat.not_lt_zero _)
  rcases h3.2 with ⟨_,hn0⟩|⟨gb,cap,cur,hv,_,_,h5,h6,_⟩
  ·rw [hn0] at hlt;exact absurd hlt (Nat.not_lt_zero _)
  ·exact ⟨_,dt (X:=Instr.indexAt ty' (a.eval x) (a.eval y)) (by rw [h1,hv,h2];exact m9 he hz hlt),hA,gb,_,_,hv,by rw [Nat.zero_add];rfl⟩) h hg hN hs
theorem Hy {x:Operand} {i n e:Nat} {ds qs:List D} {r:Int} (h:Der P ops W0 N Fin os (us++[((d :: (gk++(i :: kx x)))++pk,([d])++fk)]) [] [] ((d,.sy (.d (.t (.i r :: List.replicate 8 .any)))) :: σ)) (hlt:n<ds.length) (hq:ds[n]=.t (.i r :: qs)) (hx:ev σ x=some (.el i 9 n 0):=by rfl) (hi:aj σ i=some (.tk (.grw 9 e ds)):=by rfl) (hA:isAgg? P ty'=some true:=by rfl) (hz:sizeOf? P ty'=some 9:=by rfl) (hg:gst ops σ g=some (true,gk):=by rfl) (hN:Nat.blt d N=true:=by rfl) (hs:aE σ d=true:=by rfl):Der P ops W0 N Fin (⟨some d,.load ty' x,ty,pos,after,g⟩ :: os) us pk fk σ:=
 bO (.d (.t (.i r :: List.replicate 8 .any))) (i :: kx x) (fun σ' c a w hk hc=>by
  obtain ⟨hA',b,m,cp,h1,h2⟩:=am hc (ab hx (fun κ hκ=>hk κ (by simp [hκ])))
  obtain ⟨_,hT,_⟩:=hc.tok i _ ((hk i (by simp)).trans hi)
  rcases hT with ⟨hd,_⟩|⟨cells,T,own,_,_,_,hel⟩
  ·subst hd;exact absurd hlt (Nat.not_lt_zero _)
  obtain ⟨cs,q1,q2,q3⟩:=hel n hlt
  have q2:=Ow.rp _ _ _ q2
  rw [hq] at q2
  have h1s:=Rp.one _ _ q2
  obtain ⟨c1,e1,rfl,h4,h5⟩:=q2
  have hc1:=Rp.len _ _ h4
  rw [h1] at own
  refine ⟨.agg (c1++e1).toArray,dt (X:=Instr.loadAt ty' (a.eval x)) ?_,c1++e1,rfl,c1,e1,rfl,h4,zm 8 e1 (by rw [List.length_append,hc1] at q1;have:D.sz (.i r)=1:=rfl;omega) (fun u hu=>h1s u (List.mem_append_right _ hu))⟩
  rw [h2]
  refine eD hA (by rw [hz,q1]) (fun j u hj=>?_)
  have hjz:j<9:=by
   rcases Nat.lt_or_ge j 9 with h|h
   ·exact h
   ·rw [List.getElem?_eq_none (by omega)] at hj;cases hj
  have hin:n * 9+j<ds.length * 9:=by omega
  rcases own.2 with ⟨hv0,_⟩|⟨gb,cap,cur,hv0,rest⟩
  ·cases hv0
  ·cases hv0
   rw [Nat.add_zero,World.ownsRow.cellAt (h:=own) (n * 9+j) hin]
   exact q3 j u hj) h hg hN hs
end
end Go.Proofs.YtacafmejcdgboaaGreatDoor
namespace Go.Proofs.YtacafmejcdgboaaGreatDoor
open Go.RowKit
set_option linter.unusedVariables false
set_option linter.unusedSimpArgs false
set_option maxRecDepth 100000
set_option maxHeartbeats 4000000
attribute [local irreducible] ar Der At
theorem sv (l:List Grd) (g:Nat) (cs:List D) (p:Grd→Bool) (hct:(cs.all fun r=>!isT r)=true) (hp:∀x∈l,FnD Tryz.prog g ([x.D]++cs) (.d (.b (p x)))):FnD Tryz.prog 121 [.l 8 (l.map Grd.D),.f g cs] (.d (.i (lc p l))):=by
 refine ah Tryz.func121 (fun hw W0=>?_)
 have hl:=(wfM hw.1).1
 refine kgo ?_
 refine ai [0,1,7] (fun i:Nat=>i≤l.length∧(l.take i).any p=false) (fun i=>l.length - i) (fun i=>[(8,.sy (.d (.i i)))]) 0 ⟨Nat.zero_le _,rfl⟩ (fun i hi=>?_)
 refine kgo ?_
 refine aL (fun h=>?_) (fun h=>?_)
 ·have hlt:i<l.length:=by omega
  have f1:=hp _ (List.getElem_mem hlt)
  refine kgo ?_
  refine cIf (fun h2=>?_) (fun h2=>?_)
  ·refine kgo ?_
   rw [mG hlt h2 hi.2]
   exact aq
  ·refine kgo ?_
   exact af (i+1) ⟨hlt,kI hlt hi.2 h2⟩ (by omega)
 refine kgo ?_
 rw [kh (mY (by omega) hi.2)]
 exact aq
theorem jL (l:List Grd) (g:Nat) (cs:List D) (p:Grd→Bool) (hct:(cs.all fun r=>!isT r)=true) (hp:∀x∈l,FnD Tryz.prog g ([x.D]++cs) (.d (.b (p x)))):FnD Tryz.prog 68 [.l 8 (l.map Grd.D),.f g cs] (.d (.b (l.any p))):=by
 refine ah Tryz.func68 (fun hw W0=>?_)
 have f1:=sv l g cs p hct hp
 have hr:=ex p l
 have hq:=lG p l
 refine kgo ?_
 rw [← hq]
 exact aq
theorem z2 (sig:List Ctl) (g:Grd) (hl:g.pat.inner.length≤1048576):FnD Tryz.prog 118 [.l 3 (sig.map Ctl.D),g.D] (.d (.b (fy sig g))):=by
 have f1:=kp g.w 1 3
 have f2:=dU sig g.pat hl
 refine ah Tryz.func118 (fun hw W0=>?_)
 unfold fy
 refine kgo ?_
 cases e1:inR g.w 1 3
 ·refine kgo ?_
  (repeat refine dO ?_)
  refine kgo ?_
  exact aq
 refine kgo ?_
 cases e2:aF sig g.pat
 ·refine kgo ?_
  (repeat refine dO ?_)
  refine kgo ?_
  exact aq
 have g1:=aJ e2
 have f3:=rY g.pat (bu e2) (by omega)
 refine kgo ?_
 exact aq
theorem nC (sig:List Ctl) (g:Grd) (hl:g.pat.inner.length≤1048576):FnD Tryz.prog 117 [g.D,.p (.l 3 (sig.map Ctl.D))] (.d (.b (!fy sig g))):=by
 have f1:=z2 sig g hl
 refine ah Tryz.func117 (fun hw W0=>?_)
 refine kgo ?_
 exact aq
theorem nU (sig:List Ctl) (g:GRl) (h1:g.rule.redex.inner.length≤1048576) (h2:g.rule.reactum.inner.length≤1048576) (h3:∀x∈g.guards,x.pat.inner.length≤1048576):FnD Tryz.prog 64 [.l 3 (sig.map Ctl.D),g.D] (.d (.b (pq sig g))):=by
 have f1:=wB sig g.rule h1 h2
 have f2:=kp g.prio 0 9
 have f3:=jL g.guards 117 [.p (.l 3 (sig.map Ctl.D))] (fun x=>!fy sig x) rfl (fun x hx=>nC sig x (h3 x hx))
 have hc:g.guards.any (fun x=>!fy sig x) = !g.guards.all (fy sig):=by rw [List.all_eq_not_any_not,Bool.not_not]
 rw [hc] at f3
 refine ah Tryz.func64 (fun hw W0=>?_)
 have hlg:g.guards.length≤maxLen:=by have:=hw.2.1.2.1.1;rwa [List.length_map] at this
 unfold maxLen at hlg
 rw [show pq sig g=(fO sig g.rule && (decide ((g.guards.length:Int)≤4) && (inR g.prio 0 9 && g.guards.all (fy sig)))) by unfold pq;cases g.guards.all (fy sig) <;> cases fO sig g.rule <;> cases decide ((g.guards.length:Int)≤4) <;> cases inR g.prio 0 9 <;> rfl]
 refine dZ ?_
 refine cN ?_
 refine vn ?_
 refine df (aN ?_)
 refine tL 2 (.l 3 (sig.map Ctl.D)) ?_
 refine kgo ?_
 cases e1:fO sig g.rule
 ·refine kgo ?_
  (repeat refine dO ?_)
  refine kgo ?_
  exact aq
 refine kgo ?_
 cases e2:decide ((g.guards.length:Int)≤4)
 ·refine kgo ?_
  (repeat refine dO ?_)
  refine kgo ?_
  exact aq
 refine kgo ?_
 cases e3:inR g.prio 0 9
 ·refine kgo ?_
  (repeat refine dO ?_)
  refine kgo ?_
  exact aq
 refine kgo ?_
 rw [Bool.not_not (b:=g.guards.all (fy sig))]
 exact aq
theorem Bw (b:List Int) (x:Int):FnD Tryz.prog 193 [.i x,.p (DI b)] (.d (.b (!dP b x))):=by
 have f1:=eR b x
 refine ah Tryz.func193 (fun hw W0=>?_)
 refine kgo ?_
 exact aq
theorem Ce (a b:List Int):FnD Tryz.prog 126 [DI a,DI b] (.d (.b (a.all (dP b)))):=by
 have f1:=dY a 193 [.p (DI b)] (fun x=>!dP b x) rfl (fun x _=>Bw b x)
 rw [show a.any (fun x=>!dP b x) = !a.all (dP b) by rw [List.all_eq_not_any_not,Bool.not_not]] at f1
 refine ah Tryz.func126 (fun hw W0=>?_)
 refine dZ ?_
 refine cN ?_
 refine vn ?_
 refine df (aN ?_)
 refine tL 3 (DI b) ?_
 refine kgo ?_
 rw [Bool.not_not (b:=a.all (dP b))]
 exact aq
theorem Ct (m:Mat) (al:List Int):FnD Tryz.prog 125 [m.D,.p (DI al)] (.d (.b (!m.nodes.all (dP al)))):=by
 have f1:=Ce m.nodes al
 refine ah Tryz.func125 (fun hw W0=>?_)
 refine kgo ?_
 exact aq
def CT (w:Int) (a:Big) (ms:List Int):List Int:=if w=1 then idxOf (fun _=>true) a.nodes.length else if w=2 then jV a ms else bz a ms
theorem CJ {w:Int} (hw:inR w 1 3=true) (a:Big) (ms:List Int) (k:Nat) (hk:k<a.nodes.length):dP (CT w a ms) k=BI w a ms k:=by
 have hr:=bK hw
 unfold CT BI
 split
 ·rename_i h
  rw [km _ _ _ hk,if_neg (by omega),if_neg (by omega)]
 ·split
  ·unfold jV;rw [km _ _ _ hk]
  ·unfold bz
   rw [km _ _ _ hk,if_pos (by omega)]
   unfold mw;rfl
theorem CC {r a:Big}:∀(n:Nat) (ns:List Int),∀m∈jt r a n ns,∀x∈ns,x∈m.nodes:=by
 intro n
 induction n with
 | zero=>
  intro ns m hm x hx
  unfold jt at hm
  split at hm
  ·rw [List.mem_singleton.1 hm];exact hx
  ·cases hm
 | succ n ih=>
  intro ns m hm x hx
  unfold jt at hm
  obtain ⟨i,_,h2⟩:=List.mem_flatMap.1 hm
  split at h2
  ·exact ih _ m h2 x (List.mem_append_left _ hx)
  ·cases h2
theorem EM {α:Type} {f g:α→Bool}:∀{l:List α},(∀x∈l,f x=g x)→l.any f=l.any g:=by
 intro l
 induction l with
 | nil=>intro _;rfl
 | cons x l ih=>intro h;rw [List.any_cons,List.any_cons,h x (List.mem_cons_self ..),ih fun y hy=>h y (List.mem_cons_of_mem _ hy)]
theorem yA {g:Grd} {a:Big} {ms al:List Int} (h:∀k:Nat,k<a.nodes.length→dP al k=BI g.w a ms k):∀(n:Nat) (ns:List Int),ns.all (dP al)=true→g8 g a ms n ns=(jt g.pat a n ns).any (fun m=>m.nodes.all (dP al)):=by
 intro n
 induction n with
 | zero=>
  intro ns hn
  unfold g8 jt
  split
  ·rename_i hm;rw [hm,List.any_cons,show (gJ g.pat a ns).nodes=ns from rfl,hn];rfl
  ·rename_i hm;rw [Bool.eq_false_iff.2 hm];rfl
 | succ n ih=>
  intro ns hn
  unfold g8 jt
  rw [List.any_flatMap]
  refine EM (fun i hi=>?_)
  have hi:=List.mem_range.1 hi
  rw [← h i hi]
  by_cases hc:nR g.pat a ns i=true
  ·rw [if_pos hc,hc,Bool.true_and]
   cases hb:dP al i with
   | true=>rw [Bool.true_and];exact ih _ (by rw [List.all_append,hn,List.all_cons,hb];rfl)
   | false=>
    rw [Bool.false_and]
    refine (List.any_eq_false.2 (fun m hm ha=>?_)).symm
    have:=List.all_eq_true.1 ha _ (CC n _ m hm i (by simp))
    rw [hb] at this;cases this
  ·rw [if_neg hc,Bool.eq_false_iff.2 hc];rfl
def CE (p:Mat→Bool) (l:List Mat):Bool:=match l.getLast? with
 | some m=>p m
 | none=>true
theorem rZ (p:Mat→Bool) (l:List Mat) (m:Mat):CE p (l++[m])=p m:=by unfold CE;rw [List.getLast?_concat]
theorem zw (p:Mat→Bool):∀(l xs:List Mat),(kE (CE p) xs l).2=l.all p:=by
 intro l
 induction l with
 | nil=>intro xs;rfl
 | cons m l ih=>
  intro xs
  unfold kE
  rw [rZ,List.all_cons]
  by_cases h:p m=true
  ·rw [if_pos h,ih,h,Bool.true_and]
  ·rw [if_neg h,Bool.eq_false_iff.2 h,Bool.false_and]
theorem Ik {sig:List Ctl} {r a:Big} (hR:aF sig r=true) (hA:aF sig a=true) (hS:bF r=true) (al:List Int):FnD Tryz.prog 124 [r.D,a.D,.n 1,.f 125 [.p (DI al)]] (.d (.b ((jt r a r.nodes.length []).all fun m=>!m.nodes.all (dP al)))):=by
 have f0:=tu hR hA hS (g0:=125) (Q:=fun _=>GS (.p (DI al))) (G:=CE fun m=>!m.nodes.all (dP al)) (K:=fun _=>True) (fun xs m _=>by rw [rZ];exact (Ct m al).yield (ds:=[m.D])) (fun _ _ _=>trivial) r.nodes.length [] [] (by simp) (fun x hx=>by cases hx) trivial
 rw [zw] at f0
 exact FnY.data (ds:=[r.D,a.D,.n 1]) rfl (f0.arg (fun w F vs hv=>by
  obtain ⟨v1,t1,rfl,h1,v2,t2,rfl,h2,v3,t3,rfl,h3,h4⟩:=hv
  exact ⟨v1,_,rfl,h1,v2,_,rfl,h2,v3,_,rfl,wS h3,h4⟩))
theorem FV {sig:List Ctl} {g:Grd} {a:Big} (hG:fy sig g=true) (hA:aF sig a=true) (m:Mat):FnD Tryz.prog 70 [g.D,a.D,m.D] (.d (.b (kT g a m.nodes))):=by
 unfold fy at hG
 simp only [Bool.and_eq_true] at hG
 obtain ⟨hw1,hR,hS⟩:=hG
 have hn:=(bu hA).nodes
 have f1:=vS m hA
 have f2:=jo m hA
 have f3:=Ik hR hA hS (CT g.w a m.nodes)
 have f4:=yA (g:=g) (a:=a) (ms:=m.nodes) (CJ hw1 a m.nodes) g.pat.nodes.length [] rfl
 rw [show ((jt g.pat a g.pat.nodes.length []).all fun m_1=>!m_1.nodes.all (dP (CT g.w a m.nodes))) = !g8 g a m.nodes g.pat.nodes.length [] by rw [f4,List.all_eq_not_any_not];simp] at f3
 refine ah Tryz.func70 (fun hw W0=>?_)
 rw [show kT g a m.nodes = !((!!g8 g a m.nodes g.pat.nodes.length []) == g.no) by unfold kT;rw [Bool.not_not]]
 refine kgo ?_
 refine aL (fun h1=>?_) (fun h1=>?_)
 ·rw [show CT g.w a m.nodes=idxOf (fun _=>true) a.nodes.length from if_pos h1] at f3
  refine kgo ?_
  refine ai [3,4,7,20] (fun i:Nat=>i≤a.nodes.length) (fun i=>a.nodes.length - i) (fun i=>[(21,.sy (.d (.i i))),(10007,.tk (.bx [.k 20001])),(20001,.tk (.row 1 3 ((idxOf (fun _=>true) i).map .i)))]) 0 (Nat.zero_le _) (fun i hi=>?_)
  refine kgo ?_
  refine aL (fun h=>?_) (fun h=>?_)
  ·have hlt:i<a.nodes.length:=by omega
   have hs:(idxOf (fun _=>true) (i+1)).map D.i=(idxOf (fun _=>true) i).map D.i++[.i i]:=by rw [dg rfl,List.map_append];rfl
   have hl:=fG (fun _=>true) i
   refine kgo ?_
   exact af (i+1) hlt (by omega)
  have hie:i=a.nodes.length:=by omega
  subst hie
  refine ou 10007 0 ?_
  refine tL 7 (DI (idxOf (fun _=>true) a.nodes.length)) ?_
  refine kgo ?_
  refine wA ?_
  refine kgo ?_
  exact aq
 refine kgo ?_
 refine aL (fun h2=>?_) (fun h2=>?_)
 ·rw [show CT g.w a m.nodes=jV a m.nodes by unfold CT;rw [if_neg h1,if_pos h2]] at f3
  refine cN ?_
  refine vn ?_
  refine df (ci (aN ?_))
  refine tL 7 (DI (jV a m.nodes)) ?_
  refine kgo ?_
  refine wA ?_
  refine kgo ?_
  exact aq
 rw [show CT g.w a m.nodes=bz a m.nodes by unfold CT;rw [if_neg h1,if_neg h2]] at f3
 refine cN ?_
 refine vn ?_
 refine df (ci (aN ?_))
 refine tL 7 (DI (bz a m.nodes)) ?_
 refine kgo ?_
 refine wA ?_
 refine kgo ?_
 exact aq
theorem ud {sig:List Ctl} {g:Grd} {a:Big} (hG:fy sig g=true) (hA:aF sig a=true) (s:Stp):FnD Tryz.prog 69 [g.D,.p a.D,.p s.D] (.d (.b (!kT g a s.mat.nodes))):=by
 have f1:=FV hG hA s.mat
 refine ah Tryz.func69 (fun hw W0=>?_)
 refine kgo ?_
 exact aq
theorem xT {sig:List Ctl} {gl:List GRl} {a:Big} (hG:gl.all (pq sig)=true) (hA:aF sig a=true) (s:Stp) (h0:0≤s.rule∧s.rule<gl.length):FnD Tryz.prog 67 [s.D,.p (.l 15 (gl.map GRl.D)),.p a.D] (.d (.b (!jv gl a s))):=by
 obtain ⟨q,hq⟩:=Int.eq_ofNat_of_zero_le h0.1
 have hql:q<gl.length:=by omega
 have hgq:y6 gl s.rule=gl[q]:=by rw [hq,kr gl q hql]
 have h1:=List.all_eq_true.1 hG _ (List.getElem_mem hql)
 unfold pq at h1
 rw [Bool.and_eq_true] at h1
 have f1:=jL (gl[q]).guards 69 [.p a.D,.p s.D] (fun x=>!kT x a s.mat.nodes) rfl (fun x hx=>ud (List.all_eq_true.1 h1.1 x hx) hA s)
 rw [show (gl[q]).guards.any (fun x=>!kT x a s.mat.nodes) = !jv gl a s by unfold jv pw;rw [hgq,List.all_eq_not_any_not,Bool.not_not]] at f1
 refine ah Tryz.func67 (fun hw W0=>?_)
 refine dZ ?_
 refine cN ?_
 refine vn ?_
 refine df (aN ?_)
 refine tL 3 s.D ?_
 refine kgo ?_
 refine dm (n:=q) (fun _=>?_) rfl rfl (congrArg some hq)
 refine kgo ?_
 exact aq
theorem yD {gl:List GRl} (s:Stp) (h0:0≤s.rule∧s.rule<gl.length) (mo:Int):FnD Tryz.prog 71 [s.D,.p (.l 15 (gl.map GRl.D)),.p (.i mo)] (.d (.b (decide (dM gl s<mo)))):=by
 obtain ⟨q,hq⟩:=Int.eq_ofNat_of_zero_le h0.1
 have hql:q<gl.length:=by omega
 have hgq:y6 gl s.rule=gl[q]:=by rw [hq,kr gl q hql]
 unfold dM
 rw [hgq]
 refine ah Tryz.func71 (fun hw W0=>?_)
 refine kgo ?_
 refine dm (n:=q) (fun _=>?_) rfl rfl (congrArg some hq)
 refine kgo ?_
 exact aq
def unD:D→Int
 | .i n=>n
 | _=>0
theorem FY (l:List Int):(l.map D.i).map unD=l:=by rw [List.map_map];exact (List.map_congr_left (fun x _=>rfl)).trans (List.map_id l)
def Fy (gl:List GRl) (a:Big):D→Bool
 | .t (.i r :: .t (.l _ ns :: _) :: _)=>!pw (y6 gl r) a (ns.map unD)
 | _=>false
def Gh (gl:List GRl) (mo:Int):D→Bool
 | .t (.i r :: _)=>decide ((y6 gl r).prio<mo)
 | _=>false
theorem vT (gl:List GRl) (a:Big) (s:Stp):Fy gl a s.D = !jv gl a s:=by
 show (!pw (y6 gl s.rule) a ((s.mat.nodes.map D.i).map unD))=_
 rw [FY];rfl
theorem wm (gl:List GRl) (mo:Int) (s:Stp):Gh gl mo s.D=decide (dM gl s<mo):=rfl
theorem Eu {q:D→Bool} {p:Stp→Bool} (h:∀s,q s.D = !p s) (l:List Stp):(l.map Stp.D).filter (fun y=>!q y)=(l.filter p).map Stp.D:=by
 rw [List.filter_map]
 refine congrArg (List.map Stp.D) ?_
 congr 1
 funext s
 show (!q s.D)=p s
 rw [h,Bool.not_not]
def kJ (gl:List GRl) (l:List Stp):Int:=l.foldl (fun m x=>jz m (dM gl x)) (-1)
theorem Fl (gl:List GRl):∀(l:List Stp) (m:Int),m≤l.foldl (fun m x=>jz m (dM gl x)) m∧∀x∈l,dM gl x≤l.foldl (fun m x=>jz m (dM gl x)) m:=by
 intro l
 induction l with
 | nil=>intro m;exact ⟨Int.le_refl _,fun x hx=>by cases hx⟩
 | cons y l ih=>
  intro m
  rw [List.foldl_cons]
  obtain ⟨h1,h2⟩:=ih (jz m (dM gl y))
  have h3:m≤jz m (dM gl y)∧dM gl y≤jz m (dM gl y):=by unfold jz;split <;> omega
  exact ⟨by omega,fun x hx=>by
   rcases List.mem_cons.1 hx with rfl|h
   ·omega
   ·exact h2 x h⟩
theorem FC (gl:List GRl) (l:List Stp) (hp:∀x∈l,0≤dM gl x):(l.filter fun x=>!decide (dM gl x<kJ gl l))=l.filter fun x=>decide (dM gl x=pH gl l):=by
 cases l with
 | nil=>rfl
 | cons y l=>
  have h0:=hp y (List.mem_cons_self ..)
  have he:kJ gl (y :: l)=pH gl (y :: l):=by
   unfold kJ pH
   rw [List.foldl_cons,List.foldl_cons]
   congr 1
   unfold jz
   rw [if_neg (by omega)]
   split <;> omega
  refine List.filter_congr (fun x hx=>?_)
  have h1:=(Fl gl (y :: l) 0).2 x hx
  rw [he,Bool.eq_iff_iff,Bool.not_eq_true',decide_eq_false_iff_not,decide_eq_true_eq]
  unfold pH at *
  omega
theorem CV (gl:List GRl) (l:List Stp) (hp:∀x∈l,0≤dM gl x∧dM gl x≤9) : -1≤kJ gl l∧kJ gl l≤9:=by
 have key:∀(l:List Stp) (m:Int),-1≤m→m≤9→(∀x∈l,0≤dM gl x∧dM gl x≤9)→-1≤l.foldl (fun m x=>jz m (dM gl x)) m∧l.foldl (fun m x=>jz m (dM gl x)) m≤9:=by
  intro l
  induction l with
  | nil=>intro m h1 h2 _;exact ⟨h1,h2⟩
  | cons y l ih=>
   intro m h1 h2 h
   have hy:=h y (List.mem_cons_self ..)
   rw [List.foldl_cons]
   exact ih _ (by unfold jz;split <;> omega) (by unfold jz;split <;> omega) (fun x hx=>h x (List.mem_cons_of_mem _ hx))
 exact key l (-1) (by omega) (by omega) hp
theorem uS {sig:List Ctl} {gl:List GRl} {a:Big} (h:(gl.length:Int) > 6):bA sig gl a=([],false):=by
 have:cJ sig (gl.map GRl.rule) a=([],false):=by
  unfold cJ
  rw [show fQ sig (gl.map GRl.rule)=false by
   unfold fQ
   rw [List.length_map,show inR (gl.length:Int) 1 6=false from Bool.eq_false_iff.2 fun h1=>by have:=bK h1;omega];rfl]
  rfl
 unfold bA
 rw [this]
 split <;> rfl
theorem AK {sig:List Ctl} {rs:List Rul} {a:Big} (h:(cJ sig rs a).2=false):(cJ sig rs a).1 = []:=by
 unfold cJ at h ⊢
 split
 ·rename_i hb
  rw [if_pos hb] at h
  cases hs:du sig a rs 0 [] with
  | none=>rfl
  | some l=>rw [hs] at h;cases h
 ·rfl
theorem gi (sig:List Ctl) (gl:List GRl) (a:Big) (hr:∀r∈gl,r.rule.redex.inner.length≤1048576∧r.rule.reactum.inner.length≤1048576∧∀x∈r.guards,x.pat.inner.length≤1048576) (ha:a.inner.length≤1048576) (hgl:gl.length≤1048576):FnO Tryz.prog 22 [.l 3 (sig.map Ctl.D),.l 15 (gl.map GRl.D),a.D] [0,0] [.tk (.grw 9 118 ((bA sig gl a).1.map Stp.D)),.d (.b (bA sig gl a).2)]:=by
 have f2:=zr sig (gl.map GRl.rule) a (fun r hr'=>by
  obtain ⟨x,hx,rfl⟩:=List.mem_map.1 hr'
  exact ⟨(hr x hx).1,(hr x hx).2.1⟩) ha
 refine cR Tryz.func22 (fun hw W0=>?_)
 refine dZ ?_
 refine cN ?_
 refine vn ?_
 refine df (aN ?_)
 refine tL 4 (.l 15 (gl.map GRl.D)) ?_
 refine tL 5 a.D ?_
 refine kgo ?_
 refine ai [0,4,5,17,18] (fun i:Nat=>i≤gl.length∧(gl.take i).all (pq sig)=true) (fun i=>gl.length - i) (fun i=>[(19,.sy (.d (.i i))),(8,.sy (.k 20001)),(20001,.tk (.row 13 89 (((gl.take i).map GRl.rule).map Rul.D)))]) 0 ⟨Nat.zero_le _,rfl⟩ (fun i hx=>?_)
 obtain ⟨hi,hal⟩:=hx
 refine kgo ?_
 refine aL (fun h=>?_) (fun h=>?_)
 ·have hlt:i<gl.length:=by omega
  have h4:=hr _ (List.getElem_mem hlt)
  have f3:=nU sig gl[i] h4.1 h4.2.1 h4.2.2
  refine kgo ?_
  cases h6:decide ((gl.length:Int) > 6)
  rotate_left
  ·rw [uS (of_decide_eq_true h6)]
   refine kgo ?_
   refine pz 6 30006 118 ?_
   refine uE 30006 ?_
   exact gK (hp:=.cons (.k rfl rfl) (.cons (.d rfl) .nil))
  have h6:=of_decide_eq_false h6
  have hs:((gl.take (i+1)).map GRl.rule).map Rul.D=((gl.take i).map GRl.rule).map Rul.D++[(gl[i]).rule.D]:=by rw [List.take_succ_eq_append_getElem hlt,List.map_append,List.map_append];rfl
  have hl3:((gl.take i).map GRl.rule).length≤600000:=by rw [List.length_map,List.length_take];omega
  refine kgo ?_
  refine cIf (fun h5=>?_) (fun h5=>?_)
  ·have h5:(!pq sig gl[i])=true:=h5
   rw [Bool.not_eq_true'] at h5
   rw [show bA sig gl a=([],false) by unfold bA;rw [if_neg (by rw [List.all_eq_true];exact fun h6=>by rw [h6 _ (List.getElem_mem hlt)] at h5;cases h5)]]
   refine kgo ?_
   refine pz 6 30006 118 ?_
   refine uE 30006 ?_
   exact gK (hp:=.cons (.k rfl rfl) (.cons (.d rfl) .nil))
  have h5:(!pq sig gl[i])=false:=h5
  rw [Bool.not_eq_false'] at h5
  refine kgo ?_
  exact af (i+1) ⟨hlt,by rw [List.take_succ_eq_append_getElem hlt,List.all_append,hal,List.all_cons,h5];rfl⟩ (by omega)
 have hgi:i=gl.length:=by omega
 subst hgi
 rw [List.take_of_length_le (Nat.le_refl _)] at hal ⊢
 have hin:∀x∈(cJ sig (gl.map GRl.rule) a).1,fS sig a=true∧0≤x.rule∧x.rule<gl.length:=fun x hx=>by
  have:=s9 hx
  rwa [List.length_map] at this
 have hE:bA sig gl a=((((cJ sig (gl.map GRl.rule) a).1.filter (jv gl a)).filter fun x=>decide (dM gl x=pH gl ((cJ sig (gl.map GRl.rule) a).1.filter (jv gl a)))),(cJ sig (gl.map GRl.rule) a).2):=by unfold bA;rw [hal];rfl
 have hno:(cJ sig (gl.map GRl.rule) a).2=false→(cJ sig (gl.map GRl.rule) a).1 = []:=AK
 rw [hE]
 have hll:=(oW sig (gl.map GRl.rule) a).2
 generalize cJ sig (gl.map GRl.rule) a=q at *
 obtain ⟨l,ok⟩:=q
 dsimp only at hin hll hno ⊢
 refine cFz 8 ?_
 refine kgo ?_
 cases ok
 ·rw [hno rfl]
  refine kgo ?_
  refine pz 6 30006 118 ?_
  refine uE 30006 ?_
  exact gK (hp:=.cons (.k rfl rfl) (.cons (.d rfl) .nil))
 have f5:=sE
 refine kgo ?_
 have hq:∀y∈l.map Stp.D,(∃es,y=.t es)∧FnD Tryz.prog 67 (y :: [.p (.l 15 (gl.map GRl.D)),.p a.D]) (.d (.b (Fy gl a y))):=fun y hy=>by
  obtain ⟨s,hs,h⟩:=List.mem_map.1 hy
  subst h
  rw [vT]
  obtain ⟨ag,r0⟩:=hin s hs
  exact ⟨⟨[.i s.rule,s.mat.D,s.res.D],rfl⟩,xT hal (kg ag) s r0⟩
 refine xb (Fy gl a) ?_ (bS Tryz.func67) hq (by rw [List.length_map];omega)
 rw [Eu (vT gl a)]
 have hin2:∀x∈l.filter (jv gl a),0≤x.rule∧x.rule<gl.length:=fun x hx=>(hin x (List.mem_filter.1 hx).1).2
 have hl2:(l.filter (jv gl a)).length≤2400:=Nat.le_trans (List.length_filter_le _ _) hll
 generalize l.filter (jv gl a)=L at *
 have hpr:∀q (h:q<gl.length),0≤(gl[q]).prio∧(gl[q]).prio≤9:=fun q h=>by
  have h1:=List.all_eq_true.1 hal _ (List.getElem_mem h)
  unfold pq at h1
  simp only [Bool.and_eq_true] at h1
  exact bK h1.2.2.2
 have hprS:∀x∈L,0≤dM gl x∧dM gl x≤9:=fun x hx=>by
  obtain ⟨r0,r1⟩:=hin2 x hx
  obtain ⟨q,hq⟩:=Int.eq_ofNat_of_zero_le r0
  unfold dM
  rw [hq,kr gl q (by omega)]
  exact hpr q (by omega)
 refine kgo ?_
 refine JC 10013 (n:=-1) ?_
 refine ai [4,11,13,50,51] (fun i:Nat=>i≤L.length) (fun i=>L.length - i) (fun i=>[(52,.sy (.d (.i i))),(10013,.tk (.bx [.d (.i (kJ gl (L.take i)))]))]) 0 (Nat.zero_le _) (fun i hi=>?_)
 refine kgo ?_
 refine aL (fun h=>?_) (fun h=>?_)
 ·have hltm:i<(L.map Stp.D).length:=by omega
  have hlt:i<L.length:=by rwa [List.length_map] at hltm
  obtain ⟨r0,r1⟩:=hin2 _ (List.getElem_mem hlt)
  obtain ⟨q,hq⟩:=Int.eq_ofNat_of_zero_le r0
  have hql:q<gl.length:=by omega
  have hgq:y6 gl (L[i]).rule=gl[q]:=by rw [hq,kr gl q hql]
  refine kgo ?_
  refine IV (n:=i) ?_ hltm
  refine Hy (r:=(L[i]).rule) (qs:=[(L[i]).mat.D,(L[i]).res.D]) ?_ hltm (List.getElem_map _)
  refine kgo ?_
  refine dm (n:=q) (fun _=>?_) rfl rfl (congrArg some hq)
  refine kgo ?_
  have hp1:=hpr q hql
  have hp2:=CV gl (L.take i) (fun x hx=>hprS x (List.mem_of_mem_take hx))
  have hmo:(if (gl[q]).prio > kJ gl (L.take i) then (gl[q]).prio else kJ gl (L.take i))=kJ gl (L.take (i+1)):=by
   rw [List.take_succ_eq_append_getElem hlt]
   unfold kJ
   rw [List.foldl_append,List.foldl_cons,List.foldl_nil,show dM gl L[i]=(gl[q]).prio by unfold dM;rw [hgq]]
   unfold jz
   split <;> split <;> omega
  refine Jv ?_
  rw [hmo]
  refine kgo ?_
  exact af (i+1) hlt (by omega)
 have hie:i=L.length:=by rw [List.length_map] at h;omega
 subst hie
 rw [List.take_of_length_le (Nat.le_refl _)]
 refine tL 13 (.i (kJ gl L)) ?_
 rw [← FC gl L (fun x hx=>(hprS x hx).1)]
 refine kgo ?_
 have hq2:∀y∈L.map Stp.D,(∃es,y=.t es)∧FnD Tryz.prog 71 (y :: [.p (.l 15 (gl.map GRl.D)),.p (.i (kJ gl L))]) (.d (.b (Gh gl (kJ gl L) y))):=fun y hy=>by
  obtain ⟨s,hs,h⟩:=List.mem_map.1 hy
  subst h
  rw [wm]
  exact ⟨⟨[.i s.rule,s.mat.D,s.res.D],rfl⟩,yD s (hin2 s hs) (kJ gl L)⟩
 refine xb (Gh gl (kJ gl L)) ?_ (bS Tryz.func71) hq2 (by rw [List.length_map];omega)
 rw [Eu (p:=fun s=>!decide (dM gl s<kJ gl L)) (fun s=>by rw [wm,Bool.not_not])]
 refine kgo ?_
 exact gK (hp:=.cons (.k rfl rfl) (.cons (.d rfl) .nil))
end Go.Proofs.YtacafmejcdgboaaGreatDoor
namespace Go.Proofs.YtacafmejcdgboaaGreatDoor
open Go.RowKit
set_option linter.unusedVariables false
set_option maxRecDepth 100000
set_option maxHeartbeats 1000000
attribute [local irreducible] ar Der At
theorem BG (x:Grd):FnD Tryz.prog 194 [Grd.D x,Grd.D x] (.d (.b true)):=by
 have fpat:=gX x.pat
 refine ah Tryz.func194 (fun hw W0=>?_)
 refine kgo ?_
 refine jE (fun h=>absurd rfl h) (fun _=>?_)
 refine kgo ?_
 refine cIf (fun h=>?_) (fun _=>?_)
 ·simp at h
 refine kgo ?_
 exact aq
theorem xG (xs:List Grd):FnD Tryz.prog 127 [.l 8 (xs.map Grd.D),.l 8 (xs.map Grd.D)] (.d (.b true)):=by
 refine ah Tryz.func127 (fun hw W0=>?_)
 have hl:=(wfM hw.1).1
 refine kgo ?_
 refine jE (fun h=>absurd rfl h) (fun _=>?_)
 refine kgo ?_
 refine ai [0,1] (fun i:Nat=>i≤xs.length) (fun i=>xs.length - i) (fun i=>[(5,.sy (.d (.i i)))]) 0 (Nat.zero_le _) (fun i hi=>?_)
 refine kgo ?_
 refine aL (fun h=>?_) (fun h=>?_)
 ·have hlt:i<xs.length:=by omega
  have f:=BG xs[i]
  refine kgo ?_
  exact af (i+1) hlt (by show _ - (i+1)<_ - i;omega)
 refine kgo ?_
 exact aq
theorem oP (x:GRl):FnD Tryz.prog 73 [GRl.D x,GRl.D x] (.d (.b true)):=by
 have frule:=CQ x.rule
 have fguards:=xG x.guards
 refine ah Tryz.func73 (fun hw W0=>?_)
 refine kgo ?_
 refine jE (fun h=>absurd rfl h) (fun _=>?_)
 refine kgo ?_
 exact aq
theorem nA (xs:List GRl):FnD Tryz.prog 24 [.l 15 (xs.map GRl.D),.l 15 (xs.map GRl.D)] (.d (.b true)):=by
 refine ah Tryz.func24 (fun hw W0=>?_)
 have hl:=(wfM hw.1).1
 refine kgo ?_
 refine jE (fun h=>absurd rfl h) (fun _=>?_)
 refine kgo ?_
 refine ai [0,1] (fun i:Nat=>i≤xs.length) (fun i=>xs.length - i) (fun i=>[(5,.sy (.d (.i i)))]) 0 (Nat.zero_le _) (fun i hi=>?_)
 refine kgo ?_
 refine aL (fun h=>?_) (fun h=>?_)
 ·have hlt:i<xs.length:=by omega
  have f:=oP xs[i]
  refine kgo ?_
  exact af (i+1) hlt (by show _ - (i+1)<_ - i;omega)
 refine kgo ?_
 exact aq
end Go.Proofs.YtacafmejcdgboaaGreatDoor
namespace Go.Proofs.YtacafmejcdgboaaGreatDoor
open Go.RowKit
set_option linter.unusedVariables false
set_option maxRecDepth 100000
set_option maxHeartbeats 1000000
attribute [local irreducible] ar Der At
attribute [local irreducible] szR
theorem zQ (x:Grd) (left:Int) (h0:0≤left) (h1:left≤1048576):FnD Tryz.prog 178 [Grd.D x,.i left] (.d (.i (szR (eI x) left))):=by
 have hww:eI x=cI x.pat:=rfl
 refine ah Tryz.func178 (fun hw W0=>?_)
 have fpat:=ja x.pat (left) (by omega) (by omega)
 by_cases hpat:((cI x.pat:Nat):Int)≤left
 rotate_left
 ·rw [szN hpat] at fpat
  rw [szN (by omega)]
  refine kgo ?_
  exact aq
 rw [szP hpat] at fpat
 refine kgo ?_
 refine aL (fun h=>?_) (fun h=>?_)
 ·omega
 rw [szP (by omega),show left - ((eI x:Nat):Int)=left - (cI x.pat:Nat) by omega]
 refine kgo ?_
 exact aq
theorem yK (xs:List Grd) (left:Int) (h0:0≤left) (h1:left≤1048576):FnD Tryz.prog 110 [.l 8 (xs.map Grd.D),.i left] (.d (.i (szR (wtL eI xs) left))):=by
 have hww:wtL eI xs=xs.length+(xs.map eI).sum:=rfl
 refine ah Tryz.func110 (fun hw W0=>?_)
 have hl:=(wfM hw.1).1
 refine kgo ?_
 refine aL (fun h=>?_) (fun h=>?_)
 ·rw [szN (by omega)]
  refine kgo ?_
  exact aq
 refine kgo ?_
 refine ai [0] (fun x:Nat × Int=>x.1≤xs.length∧0≤x.2∧x.2=left - xs.length - (((xs.take x.1).map eI).sum:Nat)) (fun x=>xs.length - x.1) (fun x=>[(1,.sy (.d (.i x.2))),(5,.sy (.d (.i x.1)))]) (0,left - xs.length) ⟨Nat.zero_le _,by show 0≤left - (xs.length:Int);omega,by simp⟩ (fun x hx=>?_)
 obtain ⟨i,K⟩:=x
 obtain ⟨hi,hK0,hK⟩:=hx
 dsimp only at hi hK hK0 ⊢
 refine kgo ?_
 refine aL (fun h=>?_) (fun h=>?_)
 ·have hlt:i<xs.length:=by omega
  have hs:=ko eI xs i hlt
  have hle:=dV eI xs (i+1)
  have f:=zQ xs[i] K hK0 (by omega)
  by_cases hz:((eI xs[i]:Nat):Int)≤K
  ·rw [szP hz] at f
   refine kgo ?_
   refine aL (fun h=>?_) (fun h=>?_)
   ·omega
   refine kgo ?_
   exact af (i+1,K - (eI xs[i]:Nat)) ⟨hlt,by show 0≤K - ((eI xs[i]:Nat):Int);omega,by show K - ((eI xs[i]:Nat):Int)=left - xs.length - (((xs.take (i+1)).map eI).sum:Nat);omega⟩ (by show _ - (i+1)<_ - i;omega)
  rw [szN hz] at f
  rw [szN (by omega)]
  refine kgo ?_
  exact aq
 obtain rfl:i=xs.length:=by omega
 rw [List.take_length] at hK
 rw [szP (by omega),show left - ((wtL eI xs:Nat):Int)=K by omega]
 refine kgo ?_
 exact aq
theorem oO (x:GRl) (left:Int) (h0:0≤left) (h1:left≤1048576):FnD Tryz.prog 58 [GRl.D x,.i left] (.d (.i (szR (cU x) left))):=by
 have hww:cU x=jB x.rule+wtL eI x.guards:=rfl
 refine ah Tryz.func58 (fun hw W0=>?_)
 have frule:=DK x.rule (left) (by omega) (by omega)
 by_cases hrule:((jB x.rule:Nat):Int)≤left
 rotate_left
 ·rw [szN hrule] at frule
  rw [szN (by omega)]
  refine kgo ?_
  exact aq
 rw [szP hrule] at frule
 refine kgo ?_
 refine aL (fun h=>?_) (fun h=>?_)
 ·omega
 have fguards:=yK x.guards (left - (jB x.rule:Nat)) (by omega) (by omega)
 by_cases hguards:((wtL eI x.guards:Nat):Int)≤left - (jB x.rule:Nat)
 rotate_left
 ·rw [szN hguards] at fguards
  rw [szN (by omega)]
  refine kgo ?_
  exact aq
 rw [szP hguards] at fguards
 refine kgo ?_
 refine aL (fun h=>?_) (fun h=>?_)
 ·omega
 rw [szP (by omega),show left - ((cU x:Nat):Int)=left - (jB x.rule:Nat) - (wtL eI x.guards:Nat) by omega]
 refine kgo ?_
 exact aq
theorem nG (xs:List GRl) (left:Int) (h0:0≤left) (h1:left≤1048576):FnD Tryz.prog 19 [.l 15 (xs.map GRl.D),.i left] (.d (.i (szR (wtL cU xs) left))):=by
 have hww:wtL cU xs=xs.length+(xs.map cU).sum:=rfl
 refine ah Tryz.func19 (fun hw W0=>?_)
 have hl:=(wfM hw.1).1
 refine kgo ?_
 refine aL (fun h=>?_) (fun h=>?_)
 ·rw [szN (by omega)]
  refine kgo ?_
  exact aq
 refine kgo ?_
 refine ai [0] (fun x:Nat × Int=>x.1≤xs.length∧0≤x.2∧x.2=left - xs.length - (((xs.take x.1).map cU).sum:Nat)) (fun x=>xs.length - x.1) (fun x=>[(1,.sy (.d (.i x.2))),(5,.sy (.d (.i x.1)))]) (0,left - xs.length) ⟨Nat.zero_le _,by show 0≤left - (xs.length:Int);omega,by simp⟩ (fun x hx=>?_)
 obtain ⟨i,K⟩:=x
 obtain ⟨hi,hK0,hK⟩:=hx
 dsimp only at hi hK hK0 ⊢
 refine kgo ?_
 refine aL (fun h=>?_) (fun h=>?_)
 ·have hlt:i<xs.length:=by omega
  have hs:=ko cU xs i hlt
  have hle:=dV cU xs (i+1)
  have f:=oO xs[i] K hK0 (by omega)
  by_cases hz:((cU xs[i]:Nat):Int)≤K
  ·rw [szP hz] at f
   refine kgo ?_
   refine aL (fun h=>?_) (fun h=>?_)
   ·omega
   refine kgo ?_
   exact af (i+1,K - (cU xs[i]:Nat)) ⟨hlt,by show 0≤K - ((cU xs[i]:Nat):Int);omega,by show K - ((cU xs[i]:Nat):Int)=left - xs.length - (((xs.take (i+1)).map cU).sum:Nat);omega⟩ (by show _ - (i+1)<_ - i;omega)
  rw [szN hz] at f
  rw [szN (by omega)]
  refine kgo ?_
  exact aq
 obtain rfl:i=xs.length:=by omega
 rw [List.take_length] at hK
 rw [szP (by omega),show left - ((wtL cU xs:Nat):Int)=K by omega]
 refine kgo ?_
 exact aq
end Go.Proofs.YtacafmejcdgboaaGreatDoor
namespace Go.Proofs.YtacafmejcdgboaaGreatDoor
open Go.RowKit
set_option linter.unusedVariables false
set_option maxRecDepth 100000
set_option maxHeartbeats 1000000
attribute [local irreducible] ar Der At
theorem AL (x:Grd) (hx:eI x≤1048576):FnO Tryz.prog 184 [Grd.D x] [8] [.d (.i x.w),.d (.b x.no),.d (.i x.pat.roots),.tk (.own (.l 3 (x.pat.nodes.map Nd.D)) none none),.tk (.own (.l 1 (x.pat.sites.map D.i)) none none),.d (.i x.pat.edges),.tk (.own (.l 1 (x.pat.outer.map D.s)) none none),.tk (.own (.l 2 (x.pat.inner.map Wr.D)) none none)]:=by
 have hww:eI x=cI x.pat:=rfl
 have fpat:=eO x.pat (by omega)
 refine cR Tryz.func184 (fun hw W0=>?_)
 refine kgt ?_
 exact gK (hp:=.cons (.d rfl) (.cons (.d rfl) (.cons (.d rfl) (.cons (.k rfl rfl) (.cons (.k rfl rfl) (.cons (.d rfl) (.cons (.k rfl rfl) (.cons (.k rfl rfl) (.nil)))))))))
theorem xP (xs:List Grd) (hx:wtL eI xs≤1048576):FnO Tryz.prog 115 [.l 8 (xs.map Grd.D)] [0] [.tk (.own (.l 8 (xs.map Grd.D)) none none)]:=by
 refine cR Tryz.func115 (fun hw W0=>?_)
 have hxl:=dI eI xs
 refine kgo ?_
 refine po (n:=xs.length) (.t [.i 0,.b false,.t [.i 0,.n 3,.n 1,.i 0,.n 1,.n 2]]) ?_ rfl rfl (hb:=by show 128 * xs.length≤1000000000;omega)
 refine kgo ?_
 refine pI (ds:=List.replicate xs.length (.t [.i 0,.b false,.t [.i 0,.n 3,.n 1,.i 0,.n 1,.n 2]])) 10007 (fun d hd=>by rw [(List.mem_replicate.1 hd).2];exact ⟨rfl,rfl⟩) ?_
 refine ai [0,3,10007] (fun x:Nat × List D=>x.1≤xs.length∧x.2=rD Grd.D (.t [.i 0,.b false,.t [.i 0,.n 3,.n 1,.i 0,.n 1,.n 2]]) x.1 xs) (fun x=>xs.length - x.1) (fun x=>[(4,.sy (.d (.i x.1))),(10007,.tk (.own (.l 8 x.2) none none))]) (0,List.replicate xs.length (.t [.i 0,.b false,.t [.i 0,.n 3,.n 1,.i 0,.n 1,.n 2]])) ⟨Nat.zero_le _,il _ _ _⟩ (fun x hx=>?_)
 obtain ⟨i,ds⟩:=x
 obtain ⟨hi,hd⟩:=hx
 dsimp only at hi hd ⊢
 have hdl:=jp hi hd
 refine kgt ?_
 refine aL (fun h=>?_) (fun h=>?_)
 ·have hlt:i<xs.length:=by omega
  have hlt':i<ds.length:=by omega
  have he:=ln hlt hd
  have f:=AL xs[i] (by have:=oC eI xs _ (List.getElem_mem hlt);omega)
  refine kgt ?_
  refine rl (Grd.D xs[i]) ?_
  refine kgt ?_
  exact af (i+1,ds.set i (Grd.D xs[i])) ⟨hlt,g9 hlt hd⟩ (by show _ - (i+1)<_ - i;omega)
 rw [jj (by omega) hd]
 refine kgt ?_
 exact gK (hp:=.cons (.k rfl rfl) .nil)
theorem nZ (x:GRl) (hx:cU x≤1048576):FnO Tryz.prog 63 [GRl.D x] [15] [.d (.i x.rule.redex.roots),.tk (.own (.l 3 (x.rule.redex.nodes.map Nd.D)) none none),.tk (.own (.l 1 (x.rule.redex.sites.map D.i)) none none),.d (.i x.rule.redex.edges),.tk (.own (.l 1 (x.rule.redex.outer.map D.s)) none none),.tk (.own (.l 2 (x.rule.redex.inner.map Wr.D)) none none),.d (.i x.rule.reactum.roots),.tk (.own (.l 3 (x.rule.reactum.nodes.map Nd.D)) none none),.tk (.own (.l 1 (x.rule.reactum.sites.map D.i)) none none),.d (.i x.rule.reactum.edges),.tk (.own (.l 1 (x.rule.reactum.outer.map D.s)) none none),.tk (.own (.l 2 (x.rule.reactum.inner.map Wr.D)) none none),.tk (.own (.l 1 (x.rule.copies.map D.i)) none none),.tk (.own (.l 8 (x.guards.map Grd.D)) none none),.d (.i x.prio)]:=by
 have hww:cU x=jB x.rule+wtL eI x.guards:=rfl
 have frule:=Db x.rule (by omega)
 have fguards:=xP x.guards (by omega)
 refine cR Tryz.func63 (fun hw W0=>?_)
 refine kgt ?_
 exact gK (hp:=.cons (.d rfl) (.cons (.k rfl rfl) (.cons (.k rfl rfl) (.cons (.d rfl) (.cons (.k rfl rfl) (.cons (.k rfl rfl) (.cons (.d rfl) (.cons (.k rfl rfl) (.cons (.k rfl rfl) (.cons (.d rfl) (.cons (.k rfl rfl) (.cons (.k rfl rfl) (.cons (.k rfl rfl) (.cons (.k rfl rfl) (.cons (.d rfl) (.nil))))))))))))))))
theorem eL (xs:List GRl) (hx:wtL cU xs≤1048576):FnO Tryz.prog 21 [.l 15 (xs.map GRl.D)] [0] [.tk (.own (.l 15 (xs.map GRl.D)) none none)]:=by
 refine cR Tryz.func21 (fun hw W0=>?_)
 have hxl:=dI cU xs
 refine kgo ?_
 refine po (n:=xs.length) (.t [.t [.t [.i 0,.n 3,.n 1,.i 0,.n 1,.n 2],.t [.i 0,.n 3,.n 1,.i 0,.n 1,.n 2],.n 1],.n 8,.i 0]) ?_ rfl rfl (hb:=by show 280 * xs.length≤1000000000;omega)
 refine kgo ?_
 refine pI (ds:=List.replicate xs.length (.t [.t [.t [.i 0,.n 3,.n 1,.i 0,.n 1,.n 2],.t [.i 0,.n 3,.n 1,.i 0,.n 1,.n 2],.n 1],.n 8,.i 0])) 10007 (fun d hd=>by rw [(List.mem_replicate.1 hd).2];exact ⟨rfl,rfl⟩) ?_
 refine ai [0,3,10007] (fun x:Nat × List D=>x.1≤xs.length∧x.2=rD GRl.D (.t [.t [.t [.i 0,.n 3,.n 1,.i 0,.n 1,.n 2],.t [.i 0,.n 3,.n 1,.i 0,.n 1,.n 2],.n 1],.n 8,.i 0]) x.1 xs) (fun x=>xs.length - x.1) (fun x=>[(4,.sy (.d (.i x.1))),(10007,.tk (.own (.l 15 x.2) none none))]) (0,List.replicate xs.length (.t [.t [.t [.i 0,.n 3,.n 1,.i 0,.n 1,.n 2],.t [.i 0,.n 3,.n 1,.i 0,.n 1,.n 2],.n 1],.n 8,.i 0])) ⟨Nat.zero_le _,il _ _ _⟩ (fun x hx=>?_)
 obtain ⟨i,ds⟩:=x
 obtain ⟨hi,hd⟩:=hx
 dsimp only at hi hd ⊢
 have hdl:=jp hi hd
 refine kgt ?_
 refine aL (fun h=>?_) (fun h=>?_)
 ·have hlt:i<xs.length:=by omega
  have hlt':i<ds.length:=by omega
  have he:=ln hlt hd
  have f:=nZ xs[i] (by have:=oC cU xs _ (List.getElem_mem hlt);omega)
  refine kgt ?_
  refine rl (GRl.D xs[i]) ?_
  refine kgt ?_
  exact af (i+1,ds.set i (GRl.D xs[i])) ⟨hlt,g9 hlt hd⟩ (by show _ - (i+1)<_ - i;omega)
 rw [jj (by omega) hd]
 refine kgt ?_
 exact gK (hp:=.cons (.k rfl rfl) .nil)
end Go.Proofs.YtacafmejcdgboaaGreatDoor
namespace Go.Proofs.YtacafmejcdgboaaGreatDoor
open Go.RowKit
set_option linter.unusedVariables false
set_option linter.unusedSimpArgs false
section
variable {P:Program} {ops:Array Oper} {W0:bN} {N:Nat} {Fin:Us→Env→Prop} {os:List Oper} {us:Us} {pk fk:List Nat} {σ:Env} {g:Option (Nat × Bool)} {gk:List Nat} {d ty ty' f:Nat} {pos:String} {after:Array Edge} {at':Array TypeId}
theorem IL {x:Operand} {ty2:Nat} {s:Sy} {m:Int} (h:Der P ops W0 N Fin os (us++[((d :: (gk++kx x))++pk,([d])++fk)]) [] [] ((d,.sy (.d (.i (Int.tmod m 3)))) :: σ)) (hx:ev σ x=some s:=by rfl) (hm:s.int? = some m:=by rfl) (hg:gst ops σ g=some (true,gk):=by rfl) (hN:Nat.blt d N=true:=by rfl) (hs:aE σ d=true:=by rfl):Der P ops W0 N Fin (⟨some d,.binOp .rem ty' x (.const (.int .i64 3)) ty2,ty,pos,after,g⟩ :: os) us pk fk σ:=
 bO (.d (.i (Int.tmod m 3))) (kx x) (fun σ' c a w hk hc=>by
  have h1:=cZ hm (am hc (ab hx hk))
  have h2:a.eval (.const (.int .i64 3))=.int .i64 3:=rfl
  have h3 : -3<Int.tmod m 3∧Int.tmod m 3<3:=⟨by have:=Int.tmod_lt_of_pos (-m) (b:=3) (by omega);rw [Int.neg_tmod] at this;omega,Int.tmod_lt_of_pos m (by omega)⟩
  have hb:I64 (Int.tmod m 3):=by unfold I64;omega
  refine ⟨.int .i64 (Int.tmod m 3),?_,⟨rfl,hb⟩⟩
  generalize a.eval=ρ at *
  simp [execOp,h1,h2,binOp,go_sem]
  ) h hg hN hs
end
end Go.Proofs.YtacafmejcdgboaaGreatDoor
namespace Go.Proofs.YtacafmejcdgboaaGreatDoor
open Go.RowKit
set_option linter.unusedVariables false
set_option maxRecDepth 100000
set_option maxHeartbeats 1000000
attribute [local irreducible] ar Der At jr mkL cnL lj
theorem tF (xs:List Grd) (k:Int) (h0:0≤k) (h1:k+cnL oQ xs≤1000000000):FnM Tryz.prog 79 (.l 8 (xs.map Grd.D)) (.l 8 ((mkL zy oQ k xs).map Grd.D)) k (k+cnL oQ xs):=by
 refine nz Tryz.func79 (DH h0 (by omega)) (fun W0 v M hM hw=>?_)
 have hw':xs.length≤9223372036854775807:=by rw [← List.length_map];exact hw
 refine kgm ?_
 refine ai [0,20000] (fun x:Nat × Int × List D=>x.1≤xs.length∧x.2.1=k+cnL oQ (xs.take x.1)∧x.2.2=(lj zy oQ x.1 k xs).map Grd.D) (fun x=>xs.length - x.1) (fun x=>[(1,.sy (.d (.i x.2.1))),(5,.sy (.d (.i x.1))),(20000,.tk (.own (.l 8 x.2.2) none (some (v,M))))]) (0,k,xs.map Grd.D) ⟨Nat.zero_le _,by simp [cnL],by rw [gz]⟩ (fun x hx=>?_)
 obtain ⟨i,K,ds⟩:=x
 obtain ⟨hi,hK,hd⟩:=hx
 dsimp only at hi hK hd ⊢
 have hl:=tc hd
 have hc:=aH oQ xs i
 refine kgm ?_
 refine aL (fun h=>?_) (fun h=>?_)
 ·have hlt:i<xs.length:=by omega
  have hlt':i<ds.length:=by omega
  have hct:=ef oQ xs i hlt
  have hc':=aH oQ xs (i+1)
  have hcx:oQ xs[i]=4+cnL cNd xs[i].pat.nodes+cnL c1 xs[i].pat.sites+cnL c1 xs[i].pat.outer+cnL c2 xs[i].pat.inner:=by first|rfl|(simp only [kO,ig,kU];omega)|(simp only [xg];omega)|(simp only [oQ,ig,kU];omega)|(simp only [qg,kO,ig,kU];omega)
  have hKb:K+oQ xs[i]≤1000000000:=by omega
  have hK0:0≤K:=by omega

  have f3:=gY xs[i].pat.nodes (K+1+1+1) (by omega) (by omega)
  have f4:=er xs[i].pat.sites (K+1+1+1+(cnL cNd xs[i].pat.nodes:Nat)) (by omega) (by omega)
  have f6:=fA xs[i].pat.outer (K+1+1+1+(cnL cNd xs[i].pat.nodes:Nat)+(cnL c1 xs[i].pat.sites:Nat)+1) (by omega) (by omega)
  have f7:=ij xs[i].pat.inner (K+1+1+1+(cnL cNd xs[i].pat.nodes:Nat)+(cnL c1 xs[i].pat.sites:Nat)+1+(cnL c1 xs[i].pat.outer:Nat)) (by omega) (by omega)
  refine jK 20000 (congrArg (fun d=>Tk.own (.l 8 d) none (some (v,M))) (su hlt hd)) ?_
  refine kgm ?_
  refine IL ?_
  refine kgm ?_
  refine jK 20000 (t':=.own (.l 8 (ds.set i (Grd.D (⟨K,decide (Int.tmod (K+1) 3=0),⟨K+1+1,_,_,_,_,_⟩⟩:Grd)))) none (some (v,M))) rfl ?_
  refine iP 20000 3 (fun u=>?_)
  refine cN ?_
  refine kgm ?_
  refine jK 20000 (t':=.own (.l 8 (ds.set i (Grd.D (⟨_,_,⟨_,mkL rM cNd (K+1+1+1) xs[i].pat.nodes,_,_,_,_⟩⟩:Grd)))) none (some (v,M))) rfl ?_
  refine iP 20000 4 (fun u=>?_)
  refine cN ?_
  refine kgr ?_
  refine df (aN ?_)
  refine jK 20000 (t':=.own (.l 8 (ds.set i (Grd.D (⟨_,_,⟨_,_,mkL mkI c1 (K+1+1+1+(cnL cNd xs[i].pat.nodes:Nat)) xs[i].pat.sites,_,_,_⟩⟩:Grd)))) none (some (v,M))) rfl ?_
  refine kgm ?_
  try (refine aI ?_;refine gj (f:=5) ?_;refine kgm ?_)
  refine jK 20000 (t':=.own (.l 8 (ds.set i (Grd.D (⟨_,_,⟨_,_,_,K+1+1+1+(cnL cNd xs[i].pat.nodes:Nat)+(cnL c1 xs[i].pat.sites:Nat),_,_⟩⟩:Grd)))) none (some (v,M))) rfl ?_
  refine iP 20000 6 (fun u=>?_)
  refine cN ?_
  refine kgm ?_
  refine jK 20000 (t':=.own (.l 8 (ds.set i (Grd.D (⟨_,_,⟨_,_,_,_,mkL mkS c1 (K+1+1+1+(cnL cNd xs[i].pat.nodes:Nat)+(cnL c1 xs[i].pat.sites:Nat)+1) xs[i].pat.outer,_⟩⟩:Grd)))) none (some (v,M))) rfl ?_
  refine iP 20000 7 (fun u=>?_)
  refine cN ?_
  refine kgm ?_
  exact af (i+1,K+1+1+1+(cnL cNd xs[i].pat.nodes:Nat)+(cnL c1 xs[i].pat.sites:Nat)+1+(cnL c1 xs[i].pat.outer:Nat)+(cnL c2 xs[i].pat.inner:Nat),ds.set i (Grd.D (zy K xs[i]))) ⟨hlt,by show K+1+1+1+(cnL cNd xs[i].pat.nodes:Nat)+(cnL c1 xs[i].pat.sites:Nat)+1+(cnL c1 xs[i].pat.outer:Nat)+(cnL c2 xs[i].pat.inner:Nat)=k+(cnL oQ (xs.take (i+1)):Nat);omega,nk hlt hd hK⟩ (by show _ - (i+1)<_ - i;omega)
 have hie:i=xs.length:=by omega
 rw [sk hie hd]
 rw [hie,fZ] at hK
 rw [← hK]
 refine kgm ?_
 exact Ed hM
theorem lX (xs:List GRl) (k:Int) (h0:0≤k) (h1:k+cnL qg xs≤1000000000):FnM Tryz.prog 26 (.l 15 (xs.map GRl.D)) (.l 15 ((mkL Fb qg k xs).map GRl.D)) k (k+cnL qg xs):=by
 refine nz Tryz.func26 (DH h0 (by omega)) (fun W0 v M hM hw=>?_)
 have hw':xs.length≤9223372036854775807:=by rw [← List.length_map];exact hw
 refine kgm ?_
 refine ai [0,20000] (fun x:Nat × Int × List D=>x.1≤xs.length∧x.2.1=k+cnL qg (xs.take x.1)∧x.2.2=(lj Fb qg x.1 k xs).map GRl.D) (fun x=>xs.length - x.1) (fun x=>[(1,.sy (.d (.i x.2.1))),(5,.sy (.d (.i x.1))),(20000,.tk (.own (.l 15 x.2.2) none (some (v,M))))]) (0,k,xs.map GRl.D) ⟨Nat.zero_le _,by simp [cnL],by rw [gz]⟩ (fun x hx=>?_)
 obtain ⟨i,K,ds⟩:=x
 obtain ⟨hi,hK,hd⟩:=hx
 dsimp only at hi hK hd ⊢
 have hl:=tc hd
 have hc:=aH qg xs i
 refine kgm ?_
 refine aL (fun h=>?_) (fun h=>?_)
 ·have hlt:i<xs.length:=by omega
  have hlt':i<ds.length:=by omega
  have hct:=ef qg xs i hlt
  have hc':=aH qg xs (i+1)
  have hcx:qg xs[i]=5+cnL cNd xs[i].rule.redex.nodes+cnL c1 xs[i].rule.redex.sites+cnL c1 xs[i].rule.redex.outer+cnL c2 xs[i].rule.redex.inner+cnL cNd xs[i].rule.reactum.nodes+cnL c1 xs[i].rule.reactum.sites+cnL c1 xs[i].rule.reactum.outer+cnL c2 xs[i].rule.reactum.inner+cnL c1 xs[i].rule.copies+cnL oQ xs[i].guards:=by first|rfl|(simp only [kO,ig,kU];omega)|(simp only [xg];omega)|(simp only [oQ,ig,kU];omega)|(simp only [qg,kO,ig,kU];omega)
  have hKb:K+qg xs[i]≤1000000000:=by omega
  have hK0:0≤K:=by omega

  have f1:=gY xs[i].rule.redex.nodes (K+1) (by omega) (by omega)
  have f2:=er xs[i].rule.redex.sites (K+1+(cnL cNd xs[i].rule.redex.nodes:Nat)) (by omega) (by omega)
  have f4:=fA xs[i].rule.redex.outer (K+1+(cnL cNd xs[i].rule.redex.nodes:Nat)+(cnL c1 xs[i].rule.redex.sites:Nat)+1) (by omega) (by omega)
  have f5:=ij xs[i].rule.redex.inner (K+1+(cnL cNd xs[i].rule.redex.nodes:Nat)+(cnL c1 xs[i].rule.redex.sites:Nat)+1+(cnL c1 xs[i].rule.redex.outer:Nat)) (by omega) (by omega)
  have f7:=gY xs[i].rule.reactum.nodes (K+1+(cnL cNd xs[i].rule.redex.nodes:Nat)+(cnL c1 xs[i].rule.redex.sites:Nat)+1+(cnL c1 xs[i].rule.redex.outer:Nat)+(cnL c2 xs[i].rule.redex.inner:Nat)+1) (by omega) (by omega)
  have f8:=er xs[i].rule.reactum.sites (K+1+(cnL cNd xs[i].rule.redex.nodes:Nat)+(cnL c1 xs[i].rule.redex.sites:Nat)+1+(cnL c1 xs[i].rule.redex.outer:Nat)+(cnL c2 xs[i].rule.redex.inner:Nat)+1+(cnL cNd xs[i].rule.reactum.nodes:Nat)) (by omega) (by omega)
  have f10:=fA xs[i].rule.reactum.outer (K+1+(cnL cNd xs[i].rule.redex.nodes:Nat)+(cnL c1 xs[i].rule.redex.sites:Nat)+1+(cnL c1 xs[i].rule.redex.outer:Nat)+(cnL c2 xs[i].rule.redex.inner:Nat)+1+(cnL cNd xs[i].rule.reactum.nodes:Nat)+(cnL c1 xs[i].rule.reactum.sites:Nat)+1) (by omega) (by omega)
  have f11:=ij xs[i].rule.reactum.inner (K+1+(cnL cNd xs[i].rule.redex.nodes:Nat)+(cnL c1 xs[i].rule.redex.sites:Nat)+1+(cnL c1 xs[i].rule.redex.outer:Nat)+(cnL c2 xs[i].rule.redex.inner:Nat)+1+(cnL cNd xs[i].rule.reactum.nodes:Nat)+(cnL c1 xs[i].rule.reactum.sites:Nat)+1+(cnL c1 xs[i].rule.reactum.outer:Nat)) (by omega) (by omega)
  have f12:=er xs[i].rule.copies (K+1+(cnL cNd xs[i].rule.redex.nodes:Nat)+(cnL c1 xs[i].rule.redex.sites:Nat)+1+(cnL c1 xs[i].rule.redex.outer:Nat)+(cnL c2 xs[i].rule.redex.inner:Nat)+1+(cnL cNd xs[i].rule.reactum.nodes:Nat)+(cnL c1 xs[i].rule.reactum.sites:Nat)+1+(cnL c1 xs[i].rule.reactum.outer:Nat)+(cnL c2 xs[i].rule.reactum.inner:Nat)) (by omega) (by omega)
  have f13:=tF xs[i].guards (K+1+(cnL cNd xs[i].rule.redex.nodes:Nat)+(cnL c1 xs[i].rule.redex.sites:Nat)+1+(cnL c1 xs[i].rule.redex.outer:Nat)+(cnL c2 xs[i].rule.redex.inner:Nat)+1+(cnL cNd xs[i].rule.reactum.nodes:Nat)+(cnL c1 xs[i].rule.reactum.sites:Nat)+1+(cnL c1 xs[i].rule.reactum.outer:Nat)+(cnL c2 xs[i].rule.reactum.inner:Nat)+(cnL c1 xs[i].rule.copies:Nat)) (by omega) (by omega)
  refine jK 20000 (congrArg (fun d=>Tk.own (.l 15 d) none (some (v,M))) (su hlt hd)) ?_
  refine kgm ?_
  refine jK 20000 (t':=.own (.l 15 (ds.set i (GRl.D (⟨⟨⟨K,_,_,_,_,_⟩,⟨_,_,_,_,_,_⟩,_⟩,_,_⟩:GRl)))) none (some (v,M))) rfl ?_
  refine iP 20000 1 (fun u=>?_)
  refine cN ?_
  refine kgm ?_
  refine jK 20000 (t':=.own (.l 15 (ds.set i (GRl.D (⟨⟨⟨_,mkL rM cNd (K+1) xs[i].rule.redex.nodes,_,_,_,_⟩,⟨_,_,_,_,_,_⟩,_⟩,_,_⟩:GRl)))) none (some (v,M))) rfl ?_
  refine iP 20000 2 (fun u=>?_)
  refine cN ?_
  refine kgr ?_
  refine df (aN ?_)
  refine jK 20000 (t':=.own (.l 15 (ds.set i (GRl.D (⟨⟨⟨_,_,mkL mkI c1 (K+1+(cnL cNd xs[i].rule.redex.nodes:Nat)) xs[i].rule.redex.sites,_,_,_⟩,⟨_,_,_,_,_,_⟩,_⟩,_,_⟩:GRl)))) none (some (v,M))) rfl ?_
  refine kgm ?_
  try (refine aI ?_;refine gj (f:=3) ?_;refine kgm ?_)
  refine jK 20000 (t':=.own (.l 15 (ds.set i (GRl.D (⟨⟨⟨_,_,_,K+1+(cnL cNd xs[i].rule.redex.nodes:Nat)+(cnL c1 xs[i].rule.redex.sites:Nat),_,_⟩,⟨_,_,_,_,_,_⟩,_⟩,_,_⟩:GRl)))) none (some (v,M))) rfl ?_
  refine iP 20000 4 (fun u=>?_)
  refine cN ?_
  refine kgm ?_
  refine jK 20000 (t':=.own (.l 15 (ds.set i (GRl.D (⟨⟨⟨_,_,_,_,mkL mkS c1 (K+1+(cnL cNd xs[i].rule.redex.nodes:Nat)+(cnL c1 xs[i].rule.redex.sites:Nat)+1) xs[i].rule.redex.outer,_⟩,⟨_,_,_,_,_,_⟩,_⟩,_,_⟩:GRl)))) none (some (v,M))) rfl ?_
  refine iP 20000 5 (fun u=>?_)
  refine cN ?_
  refine kgr ?_
  refine df (aN ?_)
  refine jK 20000 (t':=.own (.l 15 (ds.set i (GRl.D (⟨⟨⟨_,_,_,_,_,mkL yT c2 (K+1+(cnL cNd xs[i].rule.redex.nodes:Nat)+(cnL c1 xs[i].rule.redex.sites:Nat)+1+(cnL c1 xs[i].rule.redex.outer:Nat)) xs[i].rule.redex.inner⟩,⟨_,_,_,_,_,_⟩,_⟩,_,_⟩:GRl)))) none (some (v,M))) rfl ?_
  refine kgm ?_
  try (refine aI ?_;refine gj (f:=6) ?_;refine kgm ?_)
  refine jK 20000 (t':=.own (.l 15 (ds.set i (GRl.D (⟨⟨⟨_,_,_,_,_,_⟩,⟨K+1+(cnL cNd xs[i].rule.redex.nodes:Nat)+(cnL c1 xs[i].rule.redex.sites:Nat)+1+(cnL c1 xs[i].rule.redex.outer:Nat)+(cnL c2 xs[i].rule.redex.inner:Nat),_,_,_,_,_⟩,_⟩,_,_⟩:GRl)))) none (some (v,M))) rfl ?_
  refine iP 20000 7 (fun u=>?_)
  refine cN ?_
  refine kgm ?_
  refine jK 20000 (t':=.own (.l 15 (ds.set i (GRl.D (⟨⟨⟨_,_,_,_,_,_⟩,⟨_,mkL rM cNd (K+1+(cnL cNd xs[i].rule.redex.nodes:Nat)+(cnL c1 xs[i].rule.redex.sites:Nat)+1+(cnL c1 xs[i].rule.redex.outer:Nat)+(cnL c2 xs[i].rule.redex.inner:Nat)+1) xs[i].rule.reactum.nodes,_,_,_,_⟩,_⟩,_,_⟩:GRl)))) none (some (v,M))) rfl ?_
  refine iP 20000 8 (fun u=>?_)
  refine cN ?_
  refine kgr ?_
  refine df (aN ?_)
  refine jK 20000 (t':=.own (.l 15 (ds.set i (GRl.D (⟨⟨⟨_,_,_,_,_,_⟩,⟨_,_,mkL mkI c1 (K+1+(cnL cNd xs[i].rule.redex.nodes:Nat)+(cnL c1 xs[i].rule.redex.sites:Nat)+1+(cnL c1 xs[i].rule.redex.outer:Nat)+(cnL c2 xs[i].rule.redex.inner:Nat)+1+(cnL cNd xs[i].rule.reactum.nodes:Nat)) xs[i].rule.reactum.sites,_,_,_⟩,_⟩,_,_⟩:GRl)))) none (some (v,M))) rfl ?_
  refine kgm ?_
  try (refine aI ?_;refine gj (f:=9) ?_;refine kgm ?_)
  refine jK 20000 (t':=.own (.l 15 (ds.set i (GRl.D (⟨⟨⟨_,_,_,_,_,_⟩,⟨_,_,_,K+1+(cnL cNd xs[i].rule.redex.nodes:Nat)+(cnL c1 xs[i].rule.redex.sites:Nat)+1+(cnL c1 xs[i].rule.redex.outer:Nat)+(cnL c2 xs[i].rule.redex.inner:Nat)+1+(cnL cNd xs[i].rule.reactum.nodes:Nat)+(cnL c1 xs[i].rule.reactum.sites:Nat),_,_⟩,_⟩,_,_⟩:GRl)))) none (some (v,M))) rfl ?_
  refine iP 20000 10 (fun u=>?_)
  refine cN ?_
  refine kgm ?_
  refine jK 20000 (t':=.own (.l 15 (ds.set i (GRl.D (⟨⟨⟨_,_,_,_,_,_⟩,⟨_,_,_,_,mkL mkS c1 (K+1+(cnL cNd xs[i].rule.redex.nodes:Nat)+(cnL c1 xs[i].rule.redex.sites:Nat)+1+(cnL c1 xs[i].rule.redex.outer:Nat)+(cnL c2 xs[i].rule.redex.inner:Nat)+1+(cnL cNd xs[i].rule.reactum.nodes:Nat)+(cnL c1 xs[i].rule.reactum.sites:Nat)+1) xs[i].rule.reactum.outer,_⟩,_⟩,_,_⟩:GRl)))) none (some (v,M))) rfl ?_
  refine iP 20000 11 (fun u=>?_)
  refine cN ?_
  refine kgm ?_
  refine jK 20000 (t':=.own (.l 15 (ds.set i (GRl.D (⟨⟨⟨_,_,_,_,_,_⟩,⟨_,_,_,_,_,mkL yT c2 (K+1+(cnL cNd xs[i].rule.redex.nodes:Nat)+(cnL c1 xs[i].rule.redex.sites:Nat)+1+(cnL c1 xs[i].rule.redex.outer:Nat)+(cnL c2 xs[i].rule.redex.inner:Nat)+1+(cnL cNd xs[i].rule.reactum.nodes:Nat)+(cnL c1 xs[i].rule.reactum.sites:Nat)+1+(cnL c1 xs[i].rule.reactum.outer:Nat)) xs[i].rule.reactum.inner⟩,_⟩,_,_⟩:GRl)))) none (some (v,M))) rfl ?_
  refine iP 20000 12 (fun u=>?_)
  refine cN ?_
  refine kgm ?_
  refine jK 20000 (t':=.own (.l 15 (ds.set i (GRl.D (⟨⟨⟨_,_,_,_,_,_⟩,⟨_,_,_,_,_,_⟩,mkL mkI c1 (K+1+(cnL cNd xs[i].rule.redex.nodes:Nat)+(cnL c1 xs[i].rule.redex.sites:Nat)+1+(cnL c1 xs[i].rule.redex.outer:Nat)+(cnL c2 xs[i].rule.redex.inner:Nat)+1+(cnL cNd xs[i].rule.reactum.nodes:Nat)+(cnL c1 xs[i].rule.reactum.sites:Nat)+1+(cnL c1 xs[i].rule.reactum.outer:Nat)+(cnL c2 xs[i].rule.reactum.inner:Nat)) xs[i].rule.copies⟩,_,_⟩:GRl)))) none (some (v,M))) rfl ?_
  refine iP 20000 13 (fun u=>?_)
  refine cN ?_
  refine kgr ?_
  refine df (aN ?_)
  refine jK 20000 (t':=.own (.l 15 (ds.set i (GRl.D (⟨⟨⟨_,_,_,_,_,_⟩,⟨_,_,_,_,_,_⟩,_⟩,mkL zy oQ (K+1+(cnL cNd xs[i].rule.redex.nodes:Nat)+(cnL c1 xs[i].rule.redex.sites:Nat)+1+(cnL c1 xs[i].rule.redex.outer:Nat)+(cnL c2 xs[i].rule.redex.inner:Nat)+1+(cnL cNd xs[i].rule.reactum.nodes:Nat)+(cnL c1 xs[i].rule.reactum.sites:Nat)+1+(cnL c1 xs[i].rule.reactum.outer:Nat)+(cnL c2 xs[i].rule.reactum.inner:Nat)+(cnL c1 xs[i].rule.copies:Nat)) xs[i].guards,_⟩:GRl)))) none (some (v,M))) rfl ?_
  refine kgm ?_
  try (refine aI ?_;refine gj (f:=14) ?_;refine kgm ?_)
  exact af (i+1,K+1+(cnL cNd xs[i].rule.redex.nodes:Nat)+(cnL c1 xs[i].rule.redex.sites:Nat)+1+(cnL c1 xs[i].rule.redex.outer:Nat)+(cnL c2 xs[i].rule.redex.inner:Nat)+1+(cnL cNd xs[i].rule.reactum.nodes:Nat)+(cnL c1 xs[i].rule.reactum.sites:Nat)+1+(cnL c1 xs[i].rule.reactum.outer:Nat)+(cnL c2 xs[i].rule.reactum.inner:Nat)+(cnL c1 xs[i].rule.copies:Nat)+(cnL oQ xs[i].guards:Nat)+1,ds.set i (GRl.D (Fb K xs[i]))) ⟨hlt,by show K+1+(cnL cNd xs[i].rule.redex.nodes:Nat)+(cnL c1 xs[i].rule.redex.sites:Nat)+1+(cnL c1 xs[i].rule.redex.outer:Nat)+(cnL c2 xs[i].rule.redex.inner:Nat)+1+(cnL cNd xs[i].rule.reactum.nodes:Nat)+(cnL c1 xs[i].rule.reactum.sites:Nat)+1+(cnL c1 xs[i].rule.reactum.outer:Nat)+(cnL c2 xs[i].rule.reactum.inner:Nat)+(cnL c1 xs[i].rule.copies:Nat)+(cnL oQ xs[i].guards:Nat)+1=k+(cnL qg (xs.take (i+1)):Nat);omega,nk hlt hd hK⟩ (by show _ - (i+1)<_ - i;omega)
 have hie:i=xs.length:=by omega
 rw [sk hie hd]
 rw [hie,fZ] at hK
 rw [← hK]
 refine kgm ?_
 exact Ed hM
end Go.Proofs.YtacafmejcdgboaaGreatDoor
namespace Go.Proofs.YtacafmejcdgboaaGreatDoor
open Go.RowKit
set_option linter.unusedVariables false
set_option maxRecDepth 100000
theorem vr {sig:List Ctl} {b:Big} (hB:aF sig b=true) (hS:bF b=true):1≤b.nodes.length:=by
 have hr:=(bK (bu hB).roots).1
 have h2:b.roots≠0:=by
  unfold bF at hS
  simp only [Bool.and_eq_true,Bool.not_eq_true',decide_eq_false_iff_not] at hS
  exact hS.1.2
 have:=ku hS hr 0 (by omega)
 have h3:(dC b (-1 - ((0:Nat):Int))).length≤b.nodes.length:=de _ _
 omega
theorem Ia {sig:List Ctl} {g:GRl} (h:pq sig g=true):1≤cU g:=by
 unfold pq at h
 simp only [Bool.and_eq_true] at h
 have hr:=h.2.1
 unfold fO at hr
 simp only [Bool.and_eq_true] at hr
 have h1:=vr hr.1.1 hr.2.1
 have h2:=dI iW g.rule.redex.nodes
 have e1:cI g.rule.redex=wtL iW g.rule.redex.nodes+g.rule.redex.sites.length+wtL gD g.rule.redex.outer+wtL kK g.rule.redex.inner:=rfl
 have e2:jB g.rule=cI g.rule.redex+cI g.rule.reactum+g.rule.copies.length:=rfl
 have e3:cU g=jB g.rule+wtL eI g.guards:=rfl
 omega
theorem qu {sig:List Ctl} (gl:List GRl) (h:wtL cU gl≤1048576):∀i,i≤gl.length→(gl.take i).all (pq sig)=true→i≤600000:=fun i hi ha=>by
 have key:∀l:List GRl,l.all (pq sig)=true→1 * l.length≤(l.map cU).sum:=by
  intro l
  induction l with
  | nil=>intro _;simp
  | cons x l ih=>
   intro h
   rw [List.all_cons,Bool.and_eq_true] at h
   have:=Ia h.1
   have:=ih h.2
   rw [List.map_cons,List.sum_cons,List.length_cons]
   omega
 have h1:=key _ ha
 rw [List.length_take,Nat.min_eq_left hi] at h1
 have h2:=dV cU gl i
 have h3:wtL cU gl=gl.length+(gl.map cU).sum:=rfl
 omega
theorem E2 (g:Grd):oQ g≤4+4 * eI g:=by
 have h1:=qZ g.pat
 unfold oQ ig eI
 omega
theorem FM (g:GRl):qg g≤5+5 * cU g:=by
 have h1:=C3 g.rule
 have h2:=zF oQ eI 4 (by omega) E2 g.guards
 unfold qg cU
 omega
theorem kz (sig:List Ctl) (gl:List GRl) (a:Big) (h:wtL gd sig+wtL cU gl+cI a≤1048576):cnL c3 sig+cnL qg gl+kU a≤800000000:=by
 have h1:=dI gd sig
 have h2:=zF qg cU 5 (by omega) FM gl
 have h3:=qZ a
 rw [Ig]
 omega
theorem pY {α:Type} (c:α→Nat) (p:α→Bool) (l:List α):cnL c (l.filter p)≤cnL c l:=by
 induction l with
 | nil=>exact Nat.le_refl _
 | cons x l ih=>
  rw [List.filter_cons]
  split
  ·rw [gm,gm];omega
  ·rw [gm];omega
theorem B1 (sig:List Ctl) (gl:List GRl) (a:Big):cnL dN (bA sig gl a).1≤60000000:=by
 have h1:=Ii sig (gl.map GRl.rule) a
 unfold bA
 split
 ·exact Nat.le_trans (Nat.le_trans (pY _ _ _) (pY _ _ _)) h1
 ·show cnL dN []≤_
  simp [cnL]
theorem DA (gl:List GRl) (h:wtL cU gl≤1048576) (hin:∀b:Big,cI b≤1048576→b.inner.length≤1048576):∀r∈gl,r.rule.redex.inner.length≤1048576∧r.rule.reactum.inner.length≤1048576∧∀x∈r.guards,x.pat.inner.length≤1048576:=fun r hr=>by
 have h1:=oC cU gl r hr
 have e3:cU r=jB r.rule+wtL eI r.guards:=rfl
 have e:jB r.rule=cI r.rule.redex+cI r.rule.reactum+r.rule.copies.length:=rfl
 refine ⟨hin _ (by omega),hin _ (by omega),fun x hx=>hin _ ?_⟩
 have h2:=oC eI r.guards x hx
 have e4:eI x=cI x.pat:=rfl
 omega
end Go.Proofs.YtacafmejcdgboaaGreatDoor
