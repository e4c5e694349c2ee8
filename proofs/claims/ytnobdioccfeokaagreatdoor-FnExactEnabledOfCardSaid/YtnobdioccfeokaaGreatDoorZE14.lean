/-
  Proved facts that the law leans on.
-/
import Derived.Test.YtnobdioccfeokaaGreatDoorZE5
import Derived.Test.YtnobdioccfeokaaGreatDoorZE8
import Derived.Test.YtnobdioccfeokaaGreatDoorZE9
import Derived.Test.YtnobdioccfeokaaGreatDoorZE10
import Derived.Test.YtnobdioccfeokaaGreatDoorZE11
import Derived.Test.YtnobdioccfeokaaGreatDoorZE13
namespace Go.Proofs.YtnobdioccfeokaaGreatDoor
open Go.RowKit
set_option linter.unusedVariables false
set_option maxRecDepth 100000
set_option maxHeartbeats 1000000
attribute [local irreducible] ar Der At kO mkL cnL lC
def FH (m:Mat):Nat:=cnL c1 m.nodes+cnL c1 m.roots
theorem mZ (n:Int) (h0:0≤n) (h1:n≤1000000000):FnD Tryz.prog 77 [.i n] (.d (.s (kO n))):=⟨cB Tryz.func77,fun F w vs hv hF=>by
 obtain ⟨v1,t,rfl,⟨h3,_⟩,h4⟩:=hv
 cases h3
 cases (show t = [] from h4)
 refine (n9 n w h0 h1).mono ?_
 rintro e w' ⟨rfl,hX⟩
 exact ⟨_,rfl,hX,rfl,CL n h0 h1⟩⟩
theorem ef (xs:List Int) (k:Int) (h0:0≤k) (h1:k+cnL c1 xs≤1000000000):FnM Tryz.prog 11 (.l 1 (xs.map D.i)) (.l 1 ((mkL mkI c1 k xs).map D.i)) k (k+cnL c1 xs):=by
 refine nx Tryz.func11 (BY h0 (by omega)) (fun W0 v M hM hw=>?_)
 have hw':xs.length≤9223372036854775807:=by rw [← List.length_map];exact hw
 refine kgm ?_
 refine ai [0,20000] (fun x:Nat × Int × List D=>x.1≤xs.length∧x.2.1=k+cnL c1 (xs.take x.1)∧x.2.2=(lC mkI c1 x.1 k xs).map D.i) (fun x=>xs.length - x.1) (fun x=>[(1,.sy (.d (.i x.2.1))),(5,.sy (.d (.i x.1))),(20000,.tk (.own (.l 1 x.2.2) none (some (v,M))))]) (0,k,xs.map D.i) ⟨Nat.zero_le _,by simp [cnL],by rw [gq]⟩ (fun x hx=>?_)
 obtain ⟨i,K,ds⟩:=x
 obtain ⟨hi,hK,hd⟩:=hx
 dsimp only at hi hK hd ⊢
 have hl:=sE hd
 have hc:=bq c1 xs i
 refine kgm ?_
 refine aJ (fun h=>?_) (fun h=>?_)
 ·have hlt:i<xs.length:=by omega
  have hlt':i<ds.length:=by omega
  have hct:=gH c1 xs i hlt
  have hc':=bq c1 xs (i+1)
  have hcx:c1 xs[i]=1:=by first|rfl|(simp only [fx,pW,sb];omega)|(simp only [FH];omega)
  have hKb:K+c1 xs[i]≤1000000000:=by omega
  have hK0:0≤K:=by omega

  refine qw 20000 (congrArg (fun d=>Tk.own (.l 1 d) none (some (v,M))) (sC hlt hd)) ?_
  refine kgm ?_
  exact aa (i+1,K+1,ds.set i (D.i (mkI K xs[i]))) ⟨hlt,by show K+1=k+(cnL c1 (xs.take (i+1)):Nat);omega,nn hlt hd hK⟩ (by show _ - (i+1)<_ - i;omega)
 have hie:i=xs.length:=by omega
 rw [sx hie hd]
 rw [hie,i7] at hK
 rw [← hK]
 refine kgm ?_
 exact Ft hM
theorem gC (xs:List ByteArray) (k:Int) (h0:0≤k) (h1:k+cnL c1 xs≤1000000000):FnM Tryz.prog 35 (.l 1 (xs.map D.s)) (.l 1 ((mkL mkS c1 k xs).map D.s)) k (k+cnL c1 xs):=by
 refine nx Tryz.func35 (BY h0 (by omega)) (fun W0 v M hM hw=>?_)
 have hw':xs.length≤9223372036854775807:=by rw [← List.length_map];exact hw
 refine kgm ?_
 refine ai [0,20000] (fun x:Nat × Int × List D=>x.1≤xs.length∧x.2.1=k+cnL c1 (xs.take x.1)∧x.2.2=(lC mkS c1 x.1 k xs).map D.s) (fun x=>xs.length - x.1) (fun x=>[(1,.sy (.d (.i x.2.1))),(5,.sy (.d (.i x.1))),(20000,.tk (.own (.l 1 x.2.2) none (some (v,M))))]) (0,k,xs.map D.s) ⟨Nat.zero_le _,by simp [cnL],by rw [gq]⟩ (fun x hx=>?_)
 obtain ⟨i,K,ds⟩:=x
 obtain ⟨hi,hK,hd⟩:=hx
 dsimp only at hi hK hd ⊢
 have hl:=sE hd
 have hc:=bq c1 xs i
 refine kgm ?_
 refine aJ (fun h=>?_) (fun h=>?_)
 ·have hlt:i<xs.length:=by omega
  have hlt':i<ds.length:=by omega
  have hct:=gH c1 xs i hlt
  have hc':=bq c1 xs (i+1)
  have hcx:c1 xs[i]=1:=by first|rfl|(simp only [fx,pW,sb];omega)|(simp only [FH];omega)
  have hKb:K+c1 xs[i]≤1000000000:=by omega
  have hK0:0≤K:=by omega

  have f0:=mZ (K) (by omega) (by omega)
  refine qw 20000 (congrArg (fun d=>Tk.own (.l 1 d) none (some (v,M))) (sC hlt hd)) ?_
  refine kgm ?_
  exact aa (i+1,K+1,ds.set i (D.s (mkS K xs[i]))) ⟨hlt,by show K+1=k+(cnL c1 (xs.take (i+1)):Nat);omega,nn hlt hd hK⟩ (by show _ - (i+1)<_ - i;omega)
 have hie:i=xs.length:=by omega
 rw [sx hie hd]
 rw [hie,i7] at hK
 rw [← hK]
 refine kgm ?_
 exact Ft hM
theorem pX (xs:List Ctl) (k:Int) (h0:0≤k) (h1:k+cnL c3 xs≤1000000000):FnM Tryz.prog 32 (.l 3 (xs.map Ctl.D)) (.l 3 ((mkL D1 c3 k xs).map Ctl.D)) k (k+cnL c3 xs):=by
 refine nx Tryz.func32 (BY h0 (by omega)) (fun W0 v M hM hw=>?_)
 have hw':xs.length≤9223372036854775807:=by rw [← List.length_map];exact hw
 refine kgm ?_
 refine ai [0,20000] (fun x:Nat × Int × List D=>x.1≤xs.length∧x.2.1=k+cnL c3 (xs.take x.1)∧x.2.2=(lC D1 c3 x.1 k xs).map Ctl.D) (fun x=>xs.length - x.1) (fun x=>[(1,.sy (.d (.i x.2.1))),(5,.sy (.d (.i x.1))),(20000,.tk (.own (.l 3 x.2.2) none (some (v,M))))]) (0,k,xs.map Ctl.D) ⟨Nat.zero_le _,by simp [cnL],by rw [gq]⟩ (fun x hx=>?_)
 obtain ⟨i,K,ds⟩:=x
 obtain ⟨hi,hK,hd⟩:=hx
 dsimp only at hi hK hd ⊢
 have hl:=sE hd
 have hc:=bq c3 xs i
 refine kgm ?_
 refine aJ (fun h=>?_) (fun h=>?_)
 ·have hlt:i<xs.length:=by omega
  have hlt':i<ds.length:=by omega
  have hct:=gH c3 xs i hlt
  have hc':=bq c3 xs (i+1)
  have hcx:c3 xs[i]=3:=by first|rfl|(simp only [fx,pW,sb];omega)|(simp only [FH];omega)
  have hKb:K+c3 xs[i]≤1000000000:=by omega
  have hK0:0≤K:=by omega

  have f0:=mZ (K) (by omega) (by omega)
  refine qw 20000 (congrArg (fun d=>Tk.own (.l 3 d) none (some (v,M))) (sC hlt hd)) ?_
  refine kgm ?_
  exact aa (i+1,K+1+1+1,ds.set i (Ctl.D (D1 K xs[i]))) ⟨hlt,by show K+1+1+1=k+(cnL c3 (xs.take (i+1)):Nat);omega,nn hlt hd hK⟩ (by show _ - (i+1)<_ - i;omega)
 have hie:i=xs.length:=by omega
 rw [sx hie hd]
 rw [hie,i7] at hK
 rw [← hK]
 refine kgm ?_
 exact Ft hM
theorem k9 (xs:List Wr) (k:Int) (h0:0≤k) (h1:k+cnL c2 xs≤1000000000):FnM Tryz.prog 81 (.l 2 (xs.map Wr.D)) (.l 2 ((mkL zF c2 k xs).map Wr.D)) k (k+cnL c2 xs):=by
 refine nx Tryz.func81 (BY h0 (by omega)) (fun W0 v M hM hw=>?_)
 have hw':xs.length≤9223372036854775807:=by rw [← List.length_map];exact hw
 refine kgm ?_
 refine ai [0,20000] (fun x:Nat × Int × List D=>x.1≤xs.length∧x.2.1=k+cnL c2 (xs.take x.1)∧x.2.2=(lC zF c2 x.1 k xs).map Wr.D) (fun x=>xs.length - x.1) (fun x=>[(1,.sy (.d (.i x.2.1))),(5,.sy (.d (.i x.1))),(20000,.tk (.own (.l 2 x.2.2) none (some (v,M))))]) (0,k,xs.map Wr.D) ⟨Nat.zero_le _,by simp [cnL],by rw [gq]⟩ (fun x hx=>?_)
 obtain ⟨i,K,ds⟩:=x
 obtain ⟨hi,hK,hd⟩:=hx
 dsimp only at hi hK hd ⊢
 have hl:=sE hd
 have hc:=bq c2 xs i
 refine kgm ?_
 refine aJ (fun h=>?_) (fun h=>?_)
 ·have hlt:i<xs.length:=by omega
  have hlt':i<ds.length:=by omega
  have hct:=gH c2 xs i hlt
  have hc':=bq c2 xs (i+1)
  have hcx:c2 xs[i]=2:=by first|rfl|(simp only [fx,pW,sb];omega)|(simp only [FH];omega)
  have hKb:K+c2 xs[i]≤1000000000:=by omega
  have hK0:0≤K:=by omega

  have f0:=mZ (K) (by omega) (by omega)
  refine qw 20000 (congrArg (fun d=>Tk.own (.l 2 d) none (some (v,M))) (sC hlt hd)) ?_
  refine kgm ?_
  exact aa (i+1,K+1+1,ds.set i (Wr.D (zF K xs[i]))) ⟨hlt,by show K+1+1=k+(cnL c2 (xs.take (i+1)):Nat);omega,nn hlt hd hK⟩ (by show _ - (i+1)<_ - i;omega)
 have hie:i=xs.length:=by omega
 rw [sx hie hd]
 rw [hie,i7] at hK
 rw [← hK]
 refine kgm ?_
 exact Ft hM
theorem lj (xs:List Nd) (k:Int) (h0:0≤k) (h1:k+cnL cNd xs≤1000000000):FnM Tryz.prog 80 (.l 3 (xs.map Nd.D)) (.l 3 ((mkL pP cNd k xs).map Nd.D)) k (k+cnL cNd xs):=by
 refine nx Tryz.func80 (BY h0 (by omega)) (fun W0 v M hM hw=>?_)
 have hw':xs.length≤9223372036854775807:=by rw [← List.length_map];exact hw
 refine kgm ?_
 refine ai [0,20000] (fun x:Nat × Int × List D=>x.1≤xs.length∧x.2.1=k+cnL cNd (xs.take x.1)∧x.2.2=(lC pP cNd x.1 k xs).map Nd.D) (fun x=>xs.length - x.1) (fun x=>[(1,.sy (.d (.i x.2.1))),(5,.sy (.d (.i x.1))),(20000,.tk (.own (.l 3 x.2.2) none (some (v,M))))]) (0,k,xs.map Nd.D) ⟨Nat.zero_le _,by simp [cnL],by rw [gq]⟩ (fun x hx=>?_)
 obtain ⟨i,K,ds⟩:=x
 obtain ⟨hi,hK,hd⟩:=hx
 dsimp only at hi hK hd ⊢
 have hl:=sE hd
 have hc:=bq cNd xs i
 refine kgm ?_
 refine aJ (fun h=>?_) (fun h=>?_)
 ·have hlt:i<xs.length:=by omega
  have hlt':i<ds.length:=by omega
  have hct:=gH cNd xs i hlt
  have hc':=bq cNd xs (i+1)
  have hcx:cNd xs[i]=2+cnL c1 xs[i].links:=by first|rfl|(simp only [fx,pW,sb];omega)|(simp only [FH];omega)
  have hKb:K+cNd xs[i]≤1000000000:=by omega
  have hK0:0≤K:=by omega

  have f2:=ef xs[i].links (K+1+1) (by omega) (by omega)
  refine qw 20000 (congrArg (fun d=>Tk.own (.l 3 d) none (some (v,M))) (sC hlt hd)) ?_
  refine kgm ?_
  refine oW 20000 2 (fun u=>?_)
  refine dq ?_
  refine kgm ?_
  exact aa (i+1,K+1+1+(cnL c1 xs[i].links:Nat),ds.set i (Nd.D (pP K xs[i]))) ⟨hlt,by show K+1+1+(cnL c1 xs[i].links:Nat)=k+(cnL cNd (xs.take (i+1)):Nat);omega,nn hlt hd hK⟩ (by show _ - (i+1)<_ - i;omega)
 have hie:i=xs.length:=by omega
 rw [sx hie hd]
 rw [hie,i7] at hK
 rw [← hK]
 refine kgm ?_
 exact Ft hM
theorem wD (xs:List Rul) (k:Int) (h0:0≤k) (h1:k+cnL fx xs≤1000000000):FnM Tryz.prog 34 (.l 13 (xs.map Rul.D)) (.l 13 ((mkL xK fx k xs).map Rul.D)) k (k+cnL fx xs):=by
 refine nx Tryz.func34 (BY h0 (by omega)) (fun W0 v M hM hw=>?_)
 have hw':xs.length≤9223372036854775807:=by rw [← List.length_map];exact hw
 refine kgm ?_
 refine ai [0,20000] (fun x:Nat × Int × List D=>x.1≤xs.length∧x.2.1=k+cnL fx (xs.take x.1)∧x.2.2=(lC xK fx x.1 k xs).map Rul.D) (fun x=>xs.length - x.1) (fun x=>[(1,.sy (.d (.i x.2.1))),(5,.sy (.d (.i x.1))),(20000,.tk (.own (.l 13 x.2.2) none (some (v,M))))]) (0,k,xs.map Rul.D) ⟨Nat.zero_le _,by simp [cnL],by rw [gq]⟩ (fun x hx=>?_)
 obtain ⟨i,K,ds⟩:=x
 obtain ⟨hi,hK,hd⟩:=hx
 dsimp only at hi hK hd ⊢
 have hl:=sE hd
 have hc:=bq fx xs i
 refine kgm ?_
 refine aJ (fun h=>?_) (fun h=>?_)
 ·have hlt:i<xs.length:=by omega
  have hlt':i<ds.length:=by omega
  have hct:=gH fx xs i hlt
  have hc':=bq fx xs (i+1)
  have hcx:fx xs[i]=4+cnL cNd xs[i].redex.nodes+cnL c1 xs[i].redex.sites+cnL c1 xs[i].redex.outer+cnL c2 xs[i].redex.inner+cnL cNd xs[i].reactum.nodes+cnL c1 xs[i].reactum.sites+cnL c1 xs[i].reactum.outer+cnL c2 xs[i].reactum.inner+cnL c1 xs[i].copies:=by first|rfl|(simp only [fx,pW,sb];omega)|(simp only [FH];omega)
  have hKb:K+fx xs[i]≤1000000000:=by omega
  have hK0:0≤K:=by omega

  have f1:=lj xs[i].redex.nodes (K+1) (by omega) (by omega)
  have f2:=ef xs[i].redex.sites (K+1+(cnL cNd xs[i].redex.nodes:Nat)) (by omega) (by omega)
  have f4:=gC xs[i].redex.outer (K+1+(cnL cNd xs[i].redex.nodes:Nat)+(cnL c1 xs[i].redex.sites:Nat)+1) (by omega) (by omega)
  have f5:=k9 xs[i].redex.inner (K+1+(cnL cNd xs[i].redex.nodes:Nat)+(cnL c1 xs[i].redex.sites:Nat)+1+(cnL c1 xs[i].redex.outer:Nat)) (by omega) (by omega)
  have f7:=lj xs[i].reactum.nodes (K+1+(cnL cNd xs[i].redex.nodes:Nat)+(cnL c1 xs[i].redex.sites:Nat)+1+(cnL c1 xs[i].redex.outer:Nat)+(cnL c2 xs[i].redex.inner:Nat)+1) (by omega) (by omega)
  have f8:=ef xs[i].reactum.sites (K+1+(cnL cNd xs[i].redex.nodes:Nat)+(cnL c1 xs[i].redex.sites:Nat)+1+(cnL c1 xs[i].redex.outer:Nat)+(cnL c2 xs[i].redex.inner:Nat)+1+(cnL cNd xs[i].reactum.nodes:Nat)) (by omega) (by omega)
  have f10:=gC xs[i].reactum.outer (K+1+(cnL cNd xs[i].redex.nodes:Nat)+(cnL c1 xs[i].redex.sites:Nat)+1+(cnL c1 xs[i].redex.outer:Nat)+(cnL c2 xs[i].redex.inner:Nat)+1+(cnL cNd xs[i].reactum.nodes:Nat)+(cnL c1 xs[i].reactum.sites:Nat)+1) (by omega) (by omega)
  have f11:=k9 xs[i].reactum.inner (K+1+(cnL cNd xs[i].redex.nodes:Nat)+(cnL c1 xs[i].redex.sites:Nat)+1+(cnL c1 xs[i].redex.outer:Nat)+(cnL c2 xs[i].redex.inner:Nat)+1+(cnL cNd xs[i].reactum.nodes:Nat)+(cnL c1 xs[i].reactum.sites:Nat)+1+(cnL c1 xs[i].reactum.outer:Nat)) (by omega) (by omega)
  have f12:=ef xs[i].copies (K+1+(cnL cNd xs[i].redex.nodes:Nat)+(cnL c1 xs[i].redex.sites:Nat)+1+(cnL c1 xs[i].redex.outer:Nat)+(cnL c2 xs[i].redex.inner:Nat)+1+(cnL cNd xs[i].reactum.nodes:Nat)+(cnL c1 xs[i].reactum.sites:Nat)+1+(cnL c1 xs[i].reactum.outer:Nat)+(cnL c2 xs[i].reactum.inner:Nat)) (by omega) (by omega)
  refine qw 20000 (congrArg (fun d=>Tk.own (.l 13 d) none (some (v,M))) (sC hlt hd)) ?_
  refine kgm ?_
  refine qw 20000 (t':=.own (.l 13 (ds.set i (Rul.D (⟨⟨K,xs[i].redex.nodes,xs[i].redex.sites,xs[i].redex.edges,xs[i].redex.outer,xs[i].redex.inner⟩,⟨xs[i].reactum.roots,xs[i].reactum.nodes,xs[i].reactum.sites,xs[i].reactum.edges,xs[i].reactum.outer,xs[i].reactum.inner⟩,xs[i].copies⟩:Rul)))) none (some (v,M))) rfl ?_
  refine oW 20000 1 (fun u=>?_)
  refine dq ?_
  refine kgm ?_
  refine qw 20000 (t':=.own (.l 13 (ds.set i (Rul.D (⟨⟨K,mkL pP cNd (K+1) xs[i].redex.nodes,xs[i].redex.sites,xs[i].redex.edges,xs[i].redex.outer,xs[i].redex.inner⟩,⟨xs[i].reactum.roots,xs[i].reactum.nodes,xs[i].reactum.sites,xs[i].reactum.edges,xs[i].reactum.outer,xs[i].reactum.inner⟩,xs[i].copies⟩:Rul)))) none (some (v,M))) rfl ?_
  refine oW 20000 2 (fun u=>?_)
  refine dq ?_
  refine kgr ?_
  refine dB (bo ?_)
  refine qw 20000 (t':=.own (.l 13 (ds.set i (Rul.D (⟨⟨K,mkL pP cNd (K+1) xs[i].redex.nodes,mkL mkI c1 (K+1+(cnL cNd xs[i].redex.nodes:Nat)) xs[i].redex.sites,xs[i].redex.edges,xs[i].redex.outer,xs[i].redex.inner⟩,⟨xs[i].reactum.roots,xs[i].reactum.nodes,xs[i].reactum.sites,xs[i].reactum.edges,xs[i].reactum.outer,xs[i].reactum.inner⟩,xs[i].copies⟩:Rul)))) none (some (v,M))) rfl ?_
  refine kgm ?_
  try (refine aK ?_;refine iw (f:=3) ?_;refine kgm ?_)
  refine qw 20000 (t':=.own (.l 13 (ds.set i (Rul.D (⟨⟨K,mkL pP cNd (K+1) xs[i].redex.nodes,mkL mkI c1 (K+1+(cnL cNd xs[i].redex.nodes:Nat)) xs[i].redex.sites,K+1+(cnL cNd xs[i].redex.nodes:Nat)+(cnL c1 xs[i].redex.sites:Nat),xs[i].redex.outer,xs[i].redex.inner⟩,⟨xs[i].reactum.roots,xs[i].reactum.nodes,xs[i].reactum.sites,xs[i].reactum.edges,xs[i].reactum.outer,xs[i].reactum.inner⟩,xs[i].copies⟩:Rul)))) none (some (v,M))) rfl ?_
  refine oW 20000 4 (fun u=>?_)
  refine dq ?_
  refine kgm ?_
  refine qw 20000 (t':=.own (.l 13 (ds.set i (Rul.D (⟨⟨K,mkL pP cNd (K+1) xs[i].redex.nodes,mkL mkI c1 (K+1+(cnL cNd xs[i].redex.nodes:Nat)) xs[i].redex.sites,K+1+(cnL cNd xs[i].redex.nodes:Nat)+(cnL c1 xs[i].redex.sites:Nat),mkL mkS c1 (K+1+(cnL cNd xs[i].redex.nodes:Nat)+(cnL c1 xs[i].redex.sites:Nat)+1) xs[i].redex.outer,xs[i].redex.inner⟩,⟨xs[i].reactum.roots,xs[i].reactum.nodes,xs[i].reactum.sites,xs[i].reactum.edges,xs[i].reactum.outer,xs[i].reactum.inner⟩,xs[i].copies⟩:Rul)))) none (some (v,M))) rfl ?_
  refine oW 20000 5 (fun u=>?_)
  refine dq ?_
  refine kgr ?_
  refine dB (bo ?_)
  refine qw 20000 (t':=.own (.l 13 (ds.set i (Rul.D (⟨⟨K,mkL pP cNd (K+1) xs[i].redex.nodes,mkL mkI c1 (K+1+(cnL cNd xs[i].redex.nodes:Nat)) xs[i].redex.sites,K+1+(cnL cNd xs[i].redex.nodes:Nat)+(cnL c1 xs[i].redex.sites:Nat),mkL mkS c1 (K+1+(cnL cNd xs[i].redex.nodes:Nat)+(cnL c1 xs[i].redex.sites:Nat)+1) xs[i].redex.outer,mkL zF c2 (K+1+(cnL cNd xs[i].redex.nodes:Nat)+(cnL c1 xs[i].redex.sites:Nat)+1+(cnL c1 xs[i].redex.outer:Nat)) xs[i].redex.inner⟩,⟨xs[i].reactum.roots,xs[i].reactum.nodes,xs[i].reactum.sites,xs[i].reactum.edges,xs[i].reactum.outer,xs[i].reactum.inner⟩,xs[i].copies⟩:Rul)))) none (some (v,M))) rfl ?_
  refine kgm ?_
  try (refine aK ?_;refine iw (f:=6) ?_;refine kgm ?_)
  refine qw 20000 (t':=.own (.l 13 (ds.set i (Rul.D (⟨⟨K,mkL pP cNd (K+1) xs[i].redex.nodes,mkL mkI c1 (K+1+(cnL cNd xs[i].redex.nodes:Nat)) xs[i].redex.sites,K+1+(cnL cNd xs[i].redex.nodes:Nat)+(cnL c1 xs[i].redex.sites:Nat),mkL mkS c1 (K+1+(cnL cNd xs[i].redex.nodes:Nat)+(cnL c1 xs[i].redex.sites:Nat)+1) xs[i].redex.outer,mkL zF c2 (K+1+(cnL cNd xs[i].redex.nodes:Nat)+(cnL c1 xs[i].redex.sites:Nat)+1+(cnL c1 xs[i].redex.outer:Nat)) xs[i].redex.inner⟩,⟨K+1+(cnL cNd xs[i].redex.nodes:Nat)+(cnL c1 xs[i].redex.sites:Nat)+1+(cnL c1 xs[i].redex.outer:Nat)+(cnL c2 xs[i].redex.inner:Nat),xs[i].reactum.nodes,xs[i].reactum.sites,xs[i].reactum.edges,xs[i].reactum.outer,xs[i].reactum.inner⟩,xs[i].copies⟩:Rul)))) none (some (v,M))) rfl ?_
  refine oW 20000 7 (fun u=>?_)
  refine dq ?_
  refine kgm ?_
  refine qw 20000 (t':=.own (.l 13 (ds.set i (Rul.D (⟨⟨K,mkL pP cNd (K+1) xs[i].redex.nodes,mkL mkI c1 (K+1+(cnL cNd xs[i].redex.nodes:Nat)) xs[i].redex.sites,K+1+(cnL cNd xs[i].redex.nodes:Nat)+(cnL c1 xs[i].redex.sites:Nat),mkL mkS c1 (K+1+(cnL cNd xs[i].redex.nodes:Nat)+(cnL c1 xs[i].redex.sites:Nat)+1) xs[i].redex.outer,mkL zF c2 (K+1+(cnL cNd xs[i].redex.nodes:Nat)+(cnL c1 xs[i].redex.sites:Nat)+1+(cnL c1 xs[i].redex.outer:Nat)) xs[i].redex.inner⟩,⟨K+1+(cnL cNd xs[i].redex.nodes:Nat)+(cnL c1 xs[i].redex.sites:Nat)+1+(cnL c1 xs[i].redex.outer:Nat)+(cnL c2 xs[i].redex.inner:Nat),mkL pP cNd (K+1+(cnL cNd xs[i].redex.nodes:Nat)+(cnL c1 xs[i].redex.sites:Nat)+1+(cnL c1 xs[i].redex.outer:Nat)+(cnL c2 xs[i].redex.inner:Nat)+1) xs[i].reactum.nodes,xs[i].reactum.sites,xs[i].reactum.edges,xs[i].reactum.outer,xs[i].reactum.inner⟩,xs[i].copies⟩:Rul)))) none (some (v,M))) rfl ?_
  refine oW 20000 8 (fun u=>?_)
  refine dq ?_
  refine kgr ?_
  refine dB (bo ?_)
  refine qw 20000 (t':=.own (.l 13 (ds.set i (Rul.D (⟨⟨K,mkL pP cNd (K+1) xs[i].redex.nodes,mkL mkI c1 (K+1+(cnL cNd xs[i].redex.nodes:Nat)) xs[i].redex.sites,K+1+(cnL cNd xs[i].redex.nodes:Nat)+(cnL c1 xs[i].redex.sites:Nat),mkL mkS c1 (K+1+(cnL cNd xs[i].redex.nodes:Nat)+(cnL c1 xs[i].redex.sites:Nat)+1) xs[i].redex.outer,mkL zF c2 (K+1+(cnL cNd xs[i].redex.nodes:Nat)+(cnL c1 xs[i].redex.sites:Nat)+1+(cnL c1 xs[i].redex.outer:Nat)) xs[i].redex.inner⟩,⟨K+1+(cnL cNd xs[i].redex.nodes:Nat)+(cnL c1 xs[i].redex.sites:Nat)+1+(cnL c1 xs[i].redex.outer:Nat)+(cnL c2 xs[i].redex.inner:Nat),mkL pP cNd (K+1+(cnL cNd xs[i].redex.nodes:Nat)+(cnL c1 xs[i].redex.sites:Nat)+1+(cnL c1 xs[i].redex.outer:Nat)+(cnL c2 xs[i].redex.inner:Nat)+1) xs[i].reactum.nodes,mkL mkI c1 (K+1+(cnL cNd xs[i].redex.nodes:Nat)+(cnL c1 xs[i].redex.sites:Nat)+1+(cnL c1 xs[i].redex.outer:Nat)+(cnL c2 xs[i].redex.inner:Nat)+1+(cnL cNd xs[i].reactum.nodes:Nat)) xs[i].reactum.sites,xs[i].reactum.edges,xs[i].reactum.outer,xs[i].reactum.inner⟩,xs[i].copies⟩:Rul)))) none (some (v,M))) rfl ?_
  refine kgm ?_
  try (refine aK ?_;refine iw (f:=9) ?_;refine kgm ?_)
  refine qw 20000 (t':=.own (.l 13 (ds.set i (Rul.D (⟨⟨K,mkL pP cNd (K+1) xs[i].redex.nodes,mkL mkI c1 (K+1+(cnL cNd xs[i].redex.nodes:Nat)) xs[i].redex.sites,K+1+(cnL cNd xs[i].redex.nodes:Nat)+(cnL c1 xs[i].redex.sites:Nat),mkL mkS c1 (K+1+(cnL cNd xs[i].redex.nodes:Nat)+(cnL c1 xs[i].redex.sites:Nat)+1) xs[i].redex.outer,mkL zF c2 (K+1+(cnL cNd xs[i].redex.nodes:Nat)+(cnL c1 xs[i].redex.sites:Nat)+1+(cnL c1 xs[i].redex.outer:Nat)) xs[i].redex.inner⟩,⟨K+1+(cnL cNd xs[i].redex.nodes:Nat)+(cnL c1 xs[i].redex.sites:Nat)+1+(cnL c1 xs[i].redex.outer:Nat)+(cnL c2 xs[i].redex.inner:Nat),mkL pP cNd (K+1+(cnL cNd xs[i].redex.nodes:Nat)+(cnL c1 xs[i].redex.sites:Nat)+1+(cnL c1 xs[i].redex.outer:Nat)+(cnL c2 xs[i].redex.inner:Nat)+1) xs[i].reactum.nodes,mkL mkI c1 (K+1+(cnL cNd xs[i].redex.nodes:Nat)+(cnL c1 xs[i].redex.sites:Nat)+1+(cnL c1 xs[i].redex.outer:Nat)+(cnL c2 xs[i].redex.inner:Nat)+1+(cnL cNd xs[i].reactum.nodes:Nat)) xs[i].reactum.sites,K+1+(cnL cNd xs[i].redex.nodes:Nat)+(cnL c1 xs[i].redex.sites:Nat)+1+(cnL c1 xs[i].redex.outer:Nat)+(cnL c2 xs[i].redex.inner:Nat)+1+(cnL cNd xs[i].reactum.nodes:Nat)+(cnL c1 xs[i].reactum.sites:Nat),xs[i].reactum.outer,xs[i].reactum.inner⟩,xs[i].copies⟩:Rul)))) none (some (v,M))) rfl ?_
  refine oW 20000 10 (fun u=>?_)
  refine dq ?_
  refine kgm ?_
  refine qw 20000 (t':=.own (.l 13 (ds.set i (Rul.D (⟨⟨K,mkL pP cNd (K+1) xs[i].redex.nodes,mkL mkI c1 (K+1+(cnL cNd xs[i].redex.nodes:Nat)) xs[i].redex.sites,K+1+(cnL cNd xs[i].redex.nodes:Nat)+(cnL c1 xs[i].redex.sites:Nat),mkL mkS c1 (K+1+(cnL cNd xs[i].redex.nodes:Nat)+(cnL c1 xs[i].redex.sites:Nat)+1) xs[i].redex.outer,mkL zF c2 (K+1+(cnL cNd xs[i].redex.nodes:Nat)+(cnL c1 xs[i].redex.sites:Nat)+1+(cnL c1 xs[i].redex.outer:Nat)) xs[i].redex.inner⟩,⟨K+1+(cnL cNd xs[i].redex.nodes:Nat)+(cnL c1 xs[i].redex.sites:Nat)+1+(cnL c1 xs[i].redex.outer:Nat)+(cnL c2 xs[i].redex.inner:Nat),mkL pP cNd (K+1+(cnL cNd xs[i].redex.nodes:Nat)+(cnL c1 xs[i].redex.sites:Nat)+1+(cnL c1 xs[i].redex.outer:Nat)+(cnL c2 xs[i].redex.inner:Nat)+1) xs[i].reactum.nodes,mkL mkI c1 (K+1+(cnL cNd xs[i].redex.nodes:Nat)+(cnL c1 xs[i].redex.sites:Nat)+1+(cnL c1 xs[i].redex.outer:Nat)+(cnL c2 xs[i].redex.inner:Nat)+1+(cnL cNd xs[i].reactum.nodes:Nat)) xs[i].reactum.sites,K+1+(cnL cNd xs[i].redex.nodes:Nat)+(cnL c1 xs[i].redex.sites:Nat)+1+(cnL c1 xs[i].redex.outer:Nat)+(cnL c2 xs[i].redex.inner:Nat)+1+(cnL cNd xs[i].reactum.nodes:Nat)+(cnL c1 xs[i].reactum.sites:Nat),mkL mkS c1 (K+1+(cnL cNd xs[i].redex.nodes:Nat)+(cnL c1 xs[i].redex.sites:Nat)+1+(cnL c1 xs[i].redex.outer:Nat)+(cnL c2 xs[i].redex.inner:Nat)+1+(cnL cNd xs[i].reactum.nodes:Nat)+(cnL c1 xs[i].reactum.sites:Nat)+1) xs[i].reactum.outer,xs[i].reactum.inner⟩,xs[i].copies⟩:Rul)))) none (some (v,M))) rfl ?_
  refine oW 20000 11 (fun u=>?_)
  refine dq ?_
  refine kgm ?_
  refine qw 20000 (t':=.own (.l 13 (ds.set i (Rul.D (⟨⟨K,mkL pP cNd (K+1) xs[i].redex.nodes,mkL mkI c1 (K+1+(cnL cNd xs[i].redex.nodes:Nat)) xs[i].redex.sites,K+1+(cnL cNd xs[i].redex.nodes:Nat)+(cnL c1 xs[i].redex.sites:Nat),mkL mkS c1 (K+1+(cnL cNd xs[i].redex.nodes:Nat)+(cnL c1 xs[i].redex.sites:Nat)+1) xs[i].redex.outer,mkL zF c2 (K+1+(cnL cNd xs[i].redex.nodes:Nat)+(cnL c1 xs[i].redex.sites:Nat)+1+(cnL c1 xs[i].redex.outer:Nat)) xs[i].redex.inner⟩,⟨K+1+(cnL cNd xs[i].redex.nodes:Nat)+(cnL c1 xs[i].redex.sites:Nat)+1+(cnL c1 xs[i].redex.outer:Nat)+(cnL c2 xs[i].redex.inner:Nat),mkL pP cNd (K+1+(cnL cNd xs[i].redex.nodes:Nat)+(cnL c1 xs[i].redex.sites:Nat)+1+(cnL c1 xs[i].redex.outer:Nat)+(cnL c2 xs[i].redex.inner:Nat)+1) xs[i].reactum.nodes,mkL mkI c1 (K+1+(cnL cNd xs[i].redex.nodes:Nat)+(cnL c1 xs[i].redex.sites:Nat)+1+(cnL c1 xs[i].redex.outer:Nat)+(cnL c2 xs[i].redex.inner:Nat)+1+(cnL cNd xs[i].reactum.nodes:Nat)) xs[i].reactum.sites,K+1+(cnL cNd xs[i].redex.nodes:Nat)+(cnL c1 xs[i].redex.sites:Nat)+1+(cnL c1 xs[i].redex.outer:Nat)+(cnL c2 xs[i].redex.inner:Nat)+1+(cnL cNd xs[i].reactum.nodes:Nat)+(cnL c1 xs[i].reactum.sites:Nat),mkL mkS c1 (K+1+(cnL cNd xs[i].redex.nodes:Nat)+(cnL c1 xs[i].redex.sites:Nat)+1+(cnL c1 xs[i].redex.outer:Nat)+(cnL c2 xs[i].redex.inner:Nat)+1+(cnL cNd xs[i].reactum.nodes:Nat)+(cnL c1 xs[i].reactum.sites:Nat)+1) xs[i].reactum.outer,mkL zF c2 (K+1+(cnL cNd xs[i].redex.nodes:Nat)+(cnL c1 xs[i].redex.sites:Nat)+1+(cnL c1 xs[i].redex.outer:Nat)+(cnL c2 xs[i].redex.inner:Nat)+1+(cnL cNd xs[i].reactum.nodes:Nat)+(cnL c1 xs[i].reactum.sites:Nat)+1+(cnL c1 xs[i].reactum.outer:Nat)) xs[i].reactum.inner⟩,xs[i].copies⟩:Rul)))) none (some (v,M))) rfl ?_
  refine oW 20000 12 (fun u=>?_)
  refine dq ?_
  refine kgm ?_
  exact aa (i+1,K+1+(cnL cNd xs[i].redex.nodes:Nat)+(cnL c1 xs[i].redex.sites:Nat)+1+(cnL c1 xs[i].redex.outer:Nat)+(cnL c2 xs[i].redex.inner:Nat)+1+(cnL cNd xs[i].reactum.nodes:Nat)+(cnL c1 xs[i].reactum.sites:Nat)+1+(cnL c1 xs[i].reactum.outer:Nat)+(cnL c2 xs[i].reactum.inner:Nat)+(cnL c1 xs[i].copies:Nat),ds.set i (Rul.D (xK K xs[i]))) ⟨hlt,by show K+1+(cnL cNd xs[i].redex.nodes:Nat)+(cnL c1 xs[i].redex.sites:Nat)+1+(cnL c1 xs[i].redex.outer:Nat)+(cnL c2 xs[i].redex.inner:Nat)+1+(cnL cNd xs[i].reactum.nodes:Nat)+(cnL c1 xs[i].reactum.sites:Nat)+1+(cnL c1 xs[i].reactum.outer:Nat)+(cnL c2 xs[i].reactum.inner:Nat)+(cnL c1 xs[i].copies:Nat)=k+(cnL fx (xs.take (i+1)):Nat);omega,nn hlt hd hK⟩ (by show _ - (i+1)<_ - i;omega)
 have hie:i=xs.length:=by omega
 rw [sx hie hd]
 rw [hie,i7] at hK
 rw [← hK]
 refine kgm ?_
 exact Ft hM
end Go.Proofs.YtnobdioccfeokaaGreatDoor
namespace Go.Proofs.YtnobdioccfeokaaGreatDoor
open Go.RowKit
set_option linter.unusedVariables false
set_option maxRecDepth 100000
set_option maxHeartbeats 1000000
attribute [local irreducible] ar Der At kO mkL cnL lC
theorem qp (xs:List Int) (k:Int) (h0:0≤k) (h1:k+cnL c1 xs≤1000000000):FnD Tryz.prog 12 [.l 1 ((mkL mkI c1 k xs).map D.i),.i k] (.d (.i (k+cnL c1 xs))):=by
 have hl:=pA mkI c1 xs k
 have ha:=fun i h=>HM mkI c1 i k xs h (by rw [hl];exact h)
 refine af Tryz.func12 (fun hw W0=>?_)
 have hw':=(wfM hw.1).1
 obtain ⟨ys,hys⟩:∃ys,mkL mkI c1 k xs=ys:=⟨_,rfl⟩
 simp only [hys] at hl ha hw' ⊢
 refine kgo ?_
 refine ai [0] (fun x:Nat × Int=>x.1≤xs.length∧x.2=k+cnL c1 (xs.take x.1)) (fun x=>xs.length - x.1) (fun x=>[(1,.sy (.d (.i x.2))),(5,.sy (.d (.i x.1)))]) (0,k) ⟨Nat.zero_le _,by simp [cnL]⟩ (fun x hx=>?_)
 obtain ⟨i,K⟩:=x
 obtain ⟨hi,hK⟩:=hx
 dsimp only at hi hK ⊢
 have hc:=bq c1 xs i
 refine kgo ?_
 refine aJ (fun h=>?_) (fun h=>?_)
 ·have hlt:i<xs.length:=by omega
  have hlt':i<ys.length:=by omega
  have hct:=gH c1 xs i hlt
  have hc':=bq c1 xs (i+1)
  have hcx:c1 xs[i]=1:=by first|rfl|(simp only [fx,pW,sb];omega)|(simp only [FH];omega)
  have hKb:K+c1 xs[i]≤1000000000:=by omega
  have hK0:0≤K:=by omega
  have hat:=ha i hlt
  rw [← hK] at hat
  have e0:ys[i]=K:=by rw [hat];rfl
  refine kgo ?_
  rw [e0]
  refine kp (fun h=>absurd rfl h) (fun _=>?_)
  refine kgo ?_
  exact aa (i+1,K+1) ⟨hlt,by show K+1=k+(cnL c1 (xs.take (i+1)):Nat);omega⟩ (by show _ - (i+1)<_ - i;omega)
 have hie:i=xs.length:=by omega
 rw [hie,i7] at hK
 rw [← hK]
 refine kgo ?_
 exact aj
end Go.Proofs.YtnobdioccfeokaaGreatDoor
namespace Go.Proofs.YtnobdioccfeokaaGreatDoor
open Go.RowKit
set_option linter.unusedVariables false
set_option maxRecDepth 100000
set_option maxHeartbeats 1000000
attribute [local irreducible] ar Der At kO mkL cnL lC
theorem rD (b:Big) (k:Int) (h0:0≤k) (h1:k+sb b≤1000000000):Ho Tryz.prog 36 [.i b.roots,.l 3 (b.nodes.map Nd.D),DI b.sites,.i b.edges,.l 1 (b.outer.map D.s),.l 2 (b.inner.map Wr.D)] [.i (vg k b).roots,.l 3 ((vg k b).nodes.map Nd.D),DI (vg k b).sites,.i (vg k b).edges,.l 1 ((vg k b).outer.map D.s),.l 2 ((vg k b).inner.map Wr.D)] k (k+sb b):=by
 have e:sb b=cnL cNd b.nodes+cnL c1 b.sites+cnL c1 b.outer+cnL c2 b.inner:=rfl
 have f1:=lj b.nodes k h0 (by omega)
 have f2:=ef b.sites (k+(cnL cNd b.nodes:Nat)) (by omega) (by omega)
 have f3:=gC b.outer (k+(cnL cNd b.nodes:Nat)+(cnL c1 b.sites:Nat)) (by omega) (by omega)
 have f4:=k9 b.inner (k+(cnL cNd b.nodes:Nat)+(cnL c1 b.sites:Nat)+(cnL c1 b.outer:Nat)) (by omega) (by omega)
 rw [show k+(sb b:Int)=k+(cnL cNd b.nodes:Nat)+(cnL c1 b.sites:Nat)+(cnL c1 b.outer:Nat)+(cnL c2 b.inner:Nat) by omega]
 refine uH Tryz.func36 (BY h0 (by omega)) (fun W0 V T=>?_)
 refine kgl ?_
 exact GX
end Go.Proofs.YtnobdioccfeokaaGreatDoor
namespace Go.Proofs.YtnobdioccfeokaaGreatDoor
open Go.RowKit
set_option linter.unusedVariables false
set_option maxRecDepth 100000
set_option maxHeartbeats 1000000
attribute [local irreducible] ar Der At
theorem gG (xs:List Int):FnD Tryz.prog 8 [.l 1 (xs.map D.i),.l 1 (xs.map D.i)] (.d (.b true)):=by
 refine af Tryz.func8 (fun hw W0=>?_)
 have hl:=(wfM hw.1).1
 refine kgo ?_
 refine kp (fun h=>absurd rfl h) (fun _=>?_)
 refine kgo ?_
 refine ai [0,1] (fun i:Nat=>i≤xs.length) (fun i=>xs.length - i) (fun i=>[(5,.sy (.d (.i i)))]) 0 (Nat.zero_le _) (fun i hi=>?_)
 refine kgo ?_
 refine aJ (fun h=>?_) (fun h=>?_)
 ·have hlt:i<xs.length:=by omega
  refine kgo ?_
  refine kp (fun h=>absurd rfl h) (fun _=>?_)
  refine kgo ?_
  exact aa (i+1) hlt (by show _ - (i+1)<_ - i;omega)
 refine kgo ?_
 exact aj
theorem od (xs:List ByteArray):FnD Tryz.prog 30 [.l 1 (xs.map D.s),.l 1 (xs.map D.s)] (.d (.b true)):=by
 refine af Tryz.func30 (fun hw W0=>?_)
 have hl:=(wfM hw.1).1
 refine kgo ?_
 refine kp (fun h=>absurd rfl h) (fun _=>?_)
 refine kgo ?_
 refine ai [0,1] (fun i:Nat=>i≤xs.length) (fun i=>xs.length - i) (fun i=>[(5,.sy (.d (.i i)))]) 0 (Nat.zero_le _) (fun i hi=>?_)
 refine kgo ?_
 refine aJ (fun h=>?_) (fun h=>?_)
 ·have hlt:i<xs.length:=by omega
  refine kgo ?_
  refine cIf (fun h=>?_) (fun _=>?_)
  ·simp at h
  refine kgo ?_
  exact aa (i+1) hlt (by show _ - (i+1)<_ - i;omega)
 refine kgo ?_
 exact aj
theorem uW (x:Ctl):FnD Tryz.prog 71 [Ctl.D x,Ctl.D x] (.d (.b true)):=by
 refine af Tryz.func71 (fun hw W0=>?_)
 refine kgo ?_
 refine cIf (fun h=>?_) (fun _=>?_)
 ·simp at h
 refine kgo ?_
 refine kp (fun h=>absurd rfl h) (fun _=>?_)
 refine kgo ?_
 refine kp (fun h=>absurd rfl h) (fun _=>?_)
 refine kgo ?_
 exact aj
theorem tG (xs:List Ctl):FnD Tryz.prog 27 [.l 3 (xs.map Ctl.D),.l 3 (xs.map Ctl.D)] (.d (.b true)):=by
 refine af Tryz.func27 (fun hw W0=>?_)
 have hl:=(wfM hw.1).1
 refine kgo ?_
 refine kp (fun h=>absurd rfl h) (fun _=>?_)
 refine kgo ?_
 refine ai [0,1] (fun i:Nat=>i≤xs.length) (fun i=>xs.length - i) (fun i=>[(5,.sy (.d (.i i)))]) 0 (Nat.zero_le _) (fun i hi=>?_)
 refine kgo ?_
 refine aJ (fun h=>?_) (fun h=>?_)
 ·have hlt:i<xs.length:=by omega
  have f:=uW xs[i]
  refine kgo ?_
  exact aa (i+1) hlt (by show _ - (i+1)<_ - i;omega)
 refine kgo ?_
 exact aj
theorem Dz (x:Wr):FnD Tryz.prog 134 [Wr.D x,Wr.D x] (.d (.b true)):=by
 refine af Tryz.func134 (fun hw W0=>?_)
 refine kgo ?_
 refine cIf (fun h=>?_) (fun _=>?_)
 ·simp at h
 refine kgo ?_
 refine kp (fun h=>absurd rfl h) (fun _=>?_)
 refine kgo ?_
 exact aj
theorem CG (xs:List Wr):FnD Tryz.prog 76 [.l 2 (xs.map Wr.D),.l 2 (xs.map Wr.D)] (.d (.b true)):=by
 refine af Tryz.func76 (fun hw W0=>?_)
 have hl:=(wfM hw.1).1
 refine kgo ?_
 refine kp (fun h=>absurd rfl h) (fun _=>?_)
 refine kgo ?_
 refine ai [0,1] (fun i:Nat=>i≤xs.length) (fun i=>xs.length - i) (fun i=>[(5,.sy (.d (.i i)))]) 0 (Nat.zero_le _) (fun i hi=>?_)
 refine kgo ?_
 refine aJ (fun h=>?_) (fun h=>?_)
 ·have hlt:i<xs.length:=by omega
  have f:=Dz xs[i]
  refine kgo ?_
  exact aa (i+1) hlt (by show _ - (i+1)<_ - i;omega)
 refine kgo ?_
 exact aj
theorem Em (x:Nd):FnD Tryz.prog 133 [Nd.D x,Nd.D x] (.d (.b true)):=by
 have flinks:=gG x.links
 refine af Tryz.func133 (fun hw W0=>?_)
 refine kgo ?_
 refine kp (fun h=>absurd rfl h) (fun _=>?_)
 refine kgo ?_
 refine kp (fun h=>absurd rfl h) (fun _=>?_)
 refine kgo ?_
 exact aj
theorem Bx (xs:List Nd):FnD Tryz.prog 75 [.l 3 (xs.map Nd.D),.l 3 (xs.map Nd.D)] (.d (.b true)):=by
 refine af Tryz.func75 (fun hw W0=>?_)
 have hl:=(wfM hw.1).1
 refine kgo ?_
 refine kp (fun h=>absurd rfl h) (fun _=>?_)
 refine kgo ?_
 refine ai [0,1] (fun i:Nat=>i≤xs.length) (fun i=>xs.length - i) (fun i=>[(5,.sy (.d (.i i)))]) 0 (Nat.zero_le _) (fun i hi=>?_)
 refine kgo ?_
 refine aJ (fun h=>?_) (fun h=>?_)
 ·have hlt:i<xs.length:=by omega
  have f:=Em xs[i]
  refine kgo ?_
  exact aa (i+1) hlt (by show _ - (i+1)<_ - i;omega)
 refine kgo ?_
 exact aj
theorem ld (x:Big):FnD Tryz.prog 31 [Big.D x,Big.D x] (.d (.b true)):=by
 have fnodes:=Bx x.nodes
 have fsites:=gG x.sites
 have fouter:=od x.outer
 have finner:=CG x.inner
 refine af Tryz.func31 (fun hw W0=>?_)
 refine kgo ?_
 refine kp (fun h=>absurd rfl h) (fun _=>?_)
 refine kgo ?_
 refine kp (fun h=>absurd rfl h) (fun _=>?_)
 refine kgo ?_
 exact aj
theorem Dd (x:Rul):FnD Tryz.prog 74 [Rul.D x,Rul.D x] (.d (.b true)):=by
 have fredex:=ld x.redex
 have freactum:=ld x.reactum
 have fcopies:=gG x.copies
 refine af Tryz.func74 (fun hw W0=>?_)
 refine kgo ?_
 exact aj
theorem Cj (xs:List Rul):FnD Tryz.prog 29 [.l 13 (xs.map Rul.D),.l 13 (xs.map Rul.D)] (.d (.b true)):=by
 refine af Tryz.func29 (fun hw W0=>?_)
 have hl:=(wfM hw.1).1
 refine kgo ?_
 refine kp (fun h=>absurd rfl h) (fun _=>?_)
 refine kgo ?_
 refine ai [0,1] (fun i:Nat=>i≤xs.length) (fun i=>xs.length - i) (fun i=>[(5,.sy (.d (.i i)))]) 0 (Nat.zero_le _) (fun i hi=>?_)
 refine kgo ?_
 refine aJ (fun h=>?_) (fun h=>?_)
 ·have hlt:i<xs.length:=by omega
  have f:=Dd xs[i]
  refine kgo ?_
  exact aa (i+1) hlt (by show _ - (i+1)<_ - i;omega)
 refine kgo ?_
 exact aj
end Go.Proofs.YtnobdioccfeokaaGreatDoor
namespace Go.Proofs.YtnobdioccfeokaaGreatDoor
open Go.RowKit
set_option linter.unusedVariables false
set_option maxRecDepth 100000
set_option maxHeartbeats 1000000
attribute [local irreducible] ar Der At
theorem szP {n:Nat} {l:Int} (h:(n:Int)≤l):szR n l=l - n:=if_pos h
theorem szN {n:Nat} {l:Int} (h:¬(n:Int)≤l):szR n l = -1:=if_neg h
attribute [local irreducible] szR
theorem ko (xs:List Int) (left:Int) (h0:0≤left) (h1:left≤1048576):FnD Tryz.prog 38 [.l 1 (xs.map D.i),.i left] (.d (.i (szR xs.length left))):=by
 refine af Tryz.func38 (fun hw W0=>?_)
 have hl:=(wfM hw.1).1
 refine kgo ?_
 refine aJ (fun h=>?_) (fun h=>?_)
 ·rw [szN (by omega)]
  refine kgo ?_
  exact aj
 rw [szP (by omega)]
 refine kgo ?_
 exact aj
theorem om (xs:List ByteArray) (left:Int) (h0:0≤left) (h1:left≤1048576):FnD Tryz.prog 16 [.l 1 (xs.map D.s),.i left] (.d (.i (szR (wtL ed xs) left))):=by
 have hww:wtL ed xs=xs.length+(xs.map ed).sum:=rfl
 refine af Tryz.func16 (fun hw W0=>?_)
 have hl:=(wfM hw.1).1
 refine kgo ?_
 refine aJ (fun h=>?_) (fun h=>?_)
 ·rw [szN (by omega)]
  refine kgo ?_
  exact aj
 refine kgo ?_
 refine ai [0] (fun x:Nat × Int=>x.1≤xs.length∧0≤x.2∧x.2=left - xs.length - (((xs.take x.1).map ed).sum:Nat)) (fun x=>xs.length - x.1) (fun x=>[(1,.sy (.d (.i x.2))),(5,.sy (.d (.i x.1)))]) (0,left - xs.length) ⟨Nat.zero_le _,by show 0≤left - (xs.length:Int);omega,by simp⟩ (fun x hx=>?_)
 obtain ⟨i,K⟩:=x
 obtain ⟨hi,hK0,hK⟩:=hx
 dsimp only at hi hK hK0 ⊢
 refine kgo ?_
 refine aJ (fun h=>?_) (fun h=>?_)
 ·have hlt:i<xs.length:=by omega
  have hs:=kj ed xs i hlt
  have hle:=fd ed xs (i+1)
  have hx:ed xs[i]=(xs[i]).size:=rfl
  have hz:=hw.1.2.at _ (List.mem_map.2 ⟨xs[i],List.getElem_mem hlt,rfl⟩)
  have hz':(xs[i]).size≤9223372036854775807:=hz
  refine kgo ?_
  refine bD (e:=0) ?_
  refine kgo ?_
  refine aJ (fun h=>?_) (fun h=>?_)
  ·rw [szN (by omega)]
   refine kgo ?_
   exact aj
  refine kgo ?_
  exact aa (i+1,K - ((xs[i]).size:Nat)) ⟨hlt,by show 0≤K - ((xs[i]).size:Int);omega,by show K - ((xs[i]).size:Int)=left - xs.length - (((xs.take (i+1)).map ed).sum:Nat);omega⟩ (by show _ - (i+1)<_ - i;omega)
 obtain rfl:i=xs.length:=by omega
 rw [List.take_length] at hK
 rw [szP (by omega),show left - ((wtL ed xs:Nat):Int)=K by omega]
 refine kgo ?_
 exact aj
theorem uC (x:Ctl) (left:Int) (h0:0≤left) (h1:left≤1048576):FnD Tryz.prog 37 [Ctl.D x,.i left] (.d (.i (szR (eq x) left))):=by
 have hww:eq x=(x.name).size:=rfl
 refine af Tryz.func37 (fun hw W0=>?_)
 have hz:(x.name).size≤9223372036854775807:=hw.1.1
 refine kgo ?_
 refine bD (e:=0) ?_
 refine kgo ?_
 refine aJ (fun h=>?_) (fun h=>?_)
 ·rw [szN (by omega)]
  refine kgo ?_
  exact aj
 rw [szP (by omega),show left - ((eq x:Nat):Int)=left - ((x.name).size:Nat) by omega]
 refine kgo ?_
 exact aj
theorem s7 (xs:List Ctl) (left:Int) (h0:0≤left) (h1:left≤1048576):FnD Tryz.prog 13 [.l 3 (xs.map Ctl.D),.i left] (.d (.i (szR (wtL eq xs) left))):=by
 have hww:wtL eq xs=xs.length+(xs.map eq).sum:=rfl
 refine af Tryz.func13 (fun hw W0=>?_)
 have hl:=(wfM hw.1).1
 refine kgo ?_
 refine aJ (fun h=>?_) (fun h=>?_)
 ·rw [szN (by omega)]
  refine kgo ?_
  exact aj
 refine kgo ?_
 refine ai [0] (fun x:Nat × Int=>x.1≤xs.length∧0≤x.2∧x.2=left - xs.length - (((xs.take x.1).map eq).sum:Nat)) (fun x=>xs.length - x.1) (fun x=>[(1,.sy (.d (.i x.2))),(5,.sy (.d (.i x.1)))]) (0,left - xs.length) ⟨Nat.zero_le _,by show 0≤left - (xs.length:Int);omega,by simp⟩ (fun x hx=>?_)
 obtain ⟨i,K⟩:=x
 obtain ⟨hi,hK0,hK⟩:=hx
 dsimp only at hi hK hK0 ⊢
 refine kgo ?_
 refine aJ (fun h=>?_) (fun h=>?_)
 ·have hlt:i<xs.length:=by omega
  have hs:=kj eq xs i hlt
  have hle:=fd eq xs (i+1)
  have f:=uC xs[i] K hK0 (by omega)
  by_cases hz:((eq xs[i]:Nat):Int)≤K
  ·rw [szP hz] at f
   refine kgo ?_
   refine aJ (fun h=>?_) (fun h=>?_)
   ·omega
   refine kgo ?_
   exact aa (i+1,K - (eq xs[i]:Nat)) ⟨hlt,by show 0≤K - ((eq xs[i]:Nat):Int);omega,by show K - ((eq xs[i]:Nat):Int)=left - xs.length - (((xs.take (i+1)).map eq).sum:Nat);omega⟩ (by show _ - (i+1)<_ - i;omega)
  rw [szN hz] at f
  rw [szN (by omega)]
  refine kgo ?_
  exact aj
 obtain rfl:i=xs.length:=by omega
 rw [List.take_length] at hK
 rw [szP (by omega),show left - ((wtL eq xs:Nat):Int)=K by omega]
 refine kgo ?_
 exact aj
theorem DR (x:Wr) (left:Int) (h0:0≤left) (h1:left≤1048576):FnD Tryz.prog 83 [Wr.D x,.i left] (.d (.i (szR (mG x) left))):=by
 have hww:mG x=(x.name).size:=rfl
 refine af Tryz.func83 (fun hw W0=>?_)
 have hz:(x.name).size≤9223372036854775807:=hw.1.1
 refine kgo ?_
 refine bD (e:=0) ?_
 refine kgo ?_
 refine aJ (fun h=>?_) (fun h=>?_)
 ·rw [szN (by omega)]
  refine kgo ?_
  exact aj
 rw [szP (by omega),show left - ((mG x:Nat):Int)=left - ((x.name).size:Nat) by omega]
 refine kgo ?_
 exact aj
theorem A1 (xs:List Wr) (left:Int) (h0:0≤left) (h1:left≤1048576):FnD Tryz.prog 43 [.l 2 (xs.map Wr.D),.i left] (.d (.i (szR (wtL mG xs) left))):=by
 have hww:wtL mG xs=xs.length+(xs.map mG).sum:=rfl
 refine af Tryz.func43 (fun hw W0=>?_)
 have hl:=(wfM hw.1).1
 refine kgo ?_
 refine aJ (fun h=>?_) (fun h=>?_)
 ·rw [szN (by omega)]
  refine kgo ?_
  exact aj
 refine kgo ?_
 refine ai [0] (fun x:Nat × Int=>x.1≤xs.length∧0≤x.2∧x.2=left - xs.length - (((xs.take x.1).map mG).sum:Nat)) (fun x=>xs.length - x.1) (fun x=>[(1,.sy (.d (.i x.2))),(5,.sy (.d (.i x.1)))]) (0,left - xs.length) ⟨Nat.zero_le _,by show 0≤left - (xs.length:Int);omega,by simp⟩ (fun x hx=>?_)
 obtain ⟨i,K⟩:=x
 obtain ⟨hi,hK0,hK⟩:=hx
 dsimp only at hi hK hK0 ⊢
 refine kgo ?_
 refine aJ (fun h=>?_) (fun h=>?_)
 ·have hlt:i<xs.length:=by omega
  have hs:=kj mG xs i hlt
  have hle:=fd mG xs (i+1)
  have f:=DR xs[i] K hK0 (by omega)
  by_cases hz:((mG xs[i]:Nat):Int)≤K
  ·rw [szP hz] at f
   refine kgo ?_
   refine aJ (fun h=>?_) (fun h=>?_)
   ·omega
   refine kgo ?_
   exact aa (i+1,K - (mG xs[i]:Nat)) ⟨hlt,by show 0≤K - ((mG xs[i]:Nat):Int);omega,by show K - ((mG xs[i]:Nat):Int)=left - xs.length - (((xs.take (i+1)).map mG).sum:Nat);omega⟩ (by show _ - (i+1)<_ - i;omega)
  rw [szN hz] at f
  rw [szN (by omega)]
  refine kgo ?_
  exact aj
 obtain rfl:i=xs.length:=by omega
 rw [List.take_length] at hK
 rw [szP (by omega),show left - ((wtL mG xs:Nat):Int)=K by omega]
 refine kgo ?_
 exact aj
theorem El (x:Nd) (left:Int) (h0:0≤left) (h1:left≤1048576):FnD Tryz.prog 82 [Nd.D x,.i left] (.d (.i (szR (jx x) left))):=by
 have hww:jx x=(x.links).length:=rfl
 refine af Tryz.func82 (fun hw W0=>?_)
 have flinks:=ko x.links (left) (by omega) (by omega)
 by_cases hlinks:(((x.links).length:Nat):Int)≤left
 rotate_left
 ·rw [szN hlinks] at flinks
  rw [szN (by omega)]
  refine kgo ?_
  exact aj
 rw [szP hlinks] at flinks
 refine kgo ?_
 refine aJ (fun h=>?_) (fun h=>?_)
 ·omega
 rw [szP (by omega),show left - ((jx x:Nat):Int)=left - ((x.links).length:Nat) by omega]
 refine kgo ?_
 exact aj
theorem CK (xs:List Nd) (left:Int) (h0:0≤left) (h1:left≤1048576):FnD Tryz.prog 42 [.l 3 (xs.map Nd.D),.i left] (.d (.i (szR (wtL jx xs) left))):=by
 have hww:wtL jx xs=xs.length+(xs.map jx).sum:=rfl
 refine af Tryz.func42 (fun hw W0=>?_)
 have hl:=(wfM hw.1).1
 refine kgo ?_
 refine aJ (fun h=>?_) (fun h=>?_)
 ·rw [szN (by omega)]
  refine kgo ?_
  exact aj
 refine kgo ?_
 refine ai [0] (fun x:Nat × Int=>x.1≤xs.length∧0≤x.2∧x.2=left - xs.length - (((xs.take x.1).map jx).sum:Nat)) (fun x=>xs.length - x.1) (fun x=>[(1,.sy (.d (.i x.2))),(5,.sy (.d (.i x.1)))]) (0,left - xs.length) ⟨Nat.zero_le _,by show 0≤left - (xs.length:Int);omega,by simp⟩ (fun x hx=>?_)
 obtain ⟨i,K⟩:=x
 obtain ⟨hi,hK0,hK⟩:=hx
 dsimp only at hi hK hK0 ⊢
 refine kgo ?_
 refine aJ (fun h=>?_) (fun h=>?_)
 ·have hlt:i<xs.length:=by omega
  have hs:=kj jx xs i hlt
  have hle:=fd jx xs (i+1)
  have f:=El xs[i] K hK0 (by omega)
  by_cases hz:((jx xs[i]:Nat):Int)≤K
  ·rw [szP hz] at f
   refine kgo ?_
   refine aJ (fun h=>?_) (fun h=>?_)
   ·omega
   refine kgo ?_
   exact aa (i+1,K - (jx xs[i]:Nat)) ⟨hlt,by show 0≤K - ((jx xs[i]:Nat):Int);omega,by show K - ((jx xs[i]:Nat):Int)=left - xs.length - (((xs.take (i+1)).map jx).sum:Nat);omega⟩ (by show _ - (i+1)<_ - i;omega)
  rw [szN hz] at f
  rw [szN (by omega)]
  refine kgo ?_
  exact aj
 obtain rfl:i=xs.length:=by omega
 rw [List.take_length] at hK
 rw [szP (by omega),show left - ((wtL jx xs:Nat):Int)=K by omega]
 refine kgo ?_
 exact aj
theorem lh (x:Big) (left:Int) (h0:0≤left) (h1:left≤1048576):FnD Tryz.prog 17 [Big.D x,.i left] (.d (.i (szR (dN x) left))):=by
 have hww:dN x=wtL jx x.nodes+(x.sites).length+wtL ed x.outer+wtL mG x.inner:=rfl
 refine af Tryz.func17 (fun hw W0=>?_)
 have fnodes:=CK x.nodes (left) (by omega) (by omega)
 by_cases hnodes:((wtL jx x.nodes:Nat):Int)≤left
 rotate_left
 ·rw [szN hnodes] at fnodes
  rw [szN (by omega)]
  refine kgo ?_
  exact aj
 rw [szP hnodes] at fnodes
 refine kgo ?_
 refine aJ (fun h=>?_) (fun h=>?_)
 ·omega
 have fsites:=ko x.sites (left - (wtL jx x.nodes:Nat)) (by omega) (by omega)
 by_cases hsites:(((x.sites).length:Nat):Int)≤left - (wtL jx x.nodes:Nat)
 rotate_left
 ·rw [szN hsites] at fsites
  rw [szN (by omega)]
  refine kgo ?_
  exact aj
 rw [szP hsites] at fsites
 refine kgo ?_
 refine aJ (fun h=>?_) (fun h=>?_)
 ·omega
 have fouter:=om x.outer (left - (wtL jx x.nodes:Nat) - ((x.sites).length:Nat)) (by omega) (by omega)
 by_cases houter:((wtL ed x.outer:Nat):Int)≤left - (wtL jx x.nodes:Nat) - ((x.sites).length:Nat)
 rotate_left
 ·rw [szN houter] at fouter
  rw [szN (by omega)]
  refine kgo ?_
  exact aj
 rw [szP houter] at fouter
 refine kgo ?_
 refine aJ (fun h=>?_) (fun h=>?_)
 ·omega
 have finner:=A1 x.inner (left - (wtL jx x.nodes:Nat) - ((x.sites).length:Nat) - (wtL ed x.outer:Nat)) (by omega) (by omega)
 by_cases hinner:((wtL mG x.inner:Nat):Int)≤left - (wtL jx x.nodes:Nat) - ((x.sites).length:Nat) - (wtL ed x.outer:Nat)
 rotate_left
 ·rw [szN hinner] at finner
  rw [szN (by omega)]
  refine kgo ?_
  exact aj
 rw [szP hinner] at finner
 refine kgo ?_
 refine aJ (fun h=>?_) (fun h=>?_)
 ·omega
 rw [szP (by omega),show left - ((dN x:Nat):Int)=left - (wtL jx x.nodes:Nat) - ((x.sites).length:Nat) - (wtL ed x.outer:Nat) - (wtL mG x.inner:Nat) by omega]
 refine kgo ?_
 exact aj
theorem En (x:Rul) (left:Int) (h0:0≤left) (h1:left≤1048576):FnD Tryz.prog 41 [Rul.D x,.i left] (.d (.i (szR (dG x) left))):=by
 have hww:dG x=dN x.redex+dN x.reactum+(x.copies).length:=rfl
 refine af Tryz.func41 (fun hw W0=>?_)
 have fredex:=lh x.redex (left) (by omega) (by omega)
 by_cases hredex:((dN x.redex:Nat):Int)≤left
 rotate_left
 ·rw [szN hredex] at fredex
  rw [szN (by omega)]
  refine kgo ?_
  exact aj
 rw [szP hredex] at fredex
 refine kgo ?_
 refine aJ (fun h=>?_) (fun h=>?_)
 ·omega
 have freactum:=lh x.reactum (left - (dN x.redex:Nat)) (by omega) (by omega)
 by_cases hreactum:((dN x.reactum:Nat):Int)≤left - (dN x.redex:Nat)
 rotate_left
 ·rw [szN hreactum] at freactum
  rw [szN (by omega)]
  refine kgo ?_
  exact aj
 rw [szP hreactum] at freactum
 refine kgo ?_
 refine aJ (fun h=>?_) (fun h=>?_)
 ·omega
 have fcopies:=ko x.copies (left - (dN x.redex:Nat) - (dN x.reactum:Nat)) (by omega) (by omega)
 by_cases hcopies:(((x.copies).length:Nat):Int)≤left - (dN x.redex:Nat) - (dN x.reactum:Nat)
 rotate_left
 ·rw [szN hcopies] at fcopies
  rw [szN (by omega)]
  refine kgo ?_
  exact aj
 rw [szP hcopies] at fcopies
 refine kgo ?_
 refine aJ (fun h=>?_) (fun h=>?_)
 ·omega
 rw [szP (by omega),show left - ((dG x:Nat):Int)=left - (dN x.redex:Nat) - (dN x.reactum:Nat) - ((x.copies).length:Nat) by omega]
 refine kgo ?_
 exact aj
theorem A3 (xs:List Rul) (left:Int) (h0:0≤left) (h1:left≤1048576):FnD Tryz.prog 15 [.l 13 (xs.map Rul.D),.i left] (.d (.i (szR (wtL dG xs) left))):=by
 have hww:wtL dG xs=xs.length+(xs.map dG).sum:=rfl
 refine af Tryz.func15 (fun hw W0=>?_)
 have hl:=(wfM hw.1).1
 refine kgo ?_
 refine aJ (fun h=>?_) (fun h=>?_)
 ·rw [szN (by omega)]
  refine kgo ?_
  exact aj
 refine kgo ?_
 refine ai [0] (fun x:Nat × Int=>x.1≤xs.length∧0≤x.2∧x.2=left - xs.length - (((xs.take x.1).map dG).sum:Nat)) (fun x=>xs.length - x.1) (fun x=>[(1,.sy (.d (.i x.2))),(5,.sy (.d (.i x.1)))]) (0,left - xs.length) ⟨Nat.zero_le _,by show 0≤left - (xs.length:Int);omega,by simp⟩ (fun x hx=>?_)
 obtain ⟨i,K⟩:=x
 obtain ⟨hi,hK0,hK⟩:=hx
 dsimp only at hi hK hK0 ⊢
 refine kgo ?_
 refine aJ (fun h=>?_) (fun h=>?_)
 ·have hlt:i<xs.length:=by omega
  have hs:=kj dG xs i hlt
  have hle:=fd dG xs (i+1)
  have f:=En xs[i] K hK0 (by omega)
  by_cases hz:((dG xs[i]:Nat):Int)≤K
  ·rw [szP hz] at f
   refine kgo ?_
   refine aJ (fun h=>?_) (fun h=>?_)
   ·omega
   refine kgo ?_
   exact aa (i+1,K - (dG xs[i]:Nat)) ⟨hlt,by show 0≤K - ((dG xs[i]:Nat):Int);omega,by show K - ((dG xs[i]:Nat):Int)=left - xs.length - (((xs.take (i+1)).map dG).sum:Nat);omega⟩ (by show _ - (i+1)<_ - i;omega)
  rw [szN hz] at f
  rw [szN (by omega)]
  refine kgo ?_
  exact aj
 obtain rfl:i=xs.length:=by omega
 rw [List.take_length] at hK
 rw [szP (by omega),show left - ((wtL dG xs:Nat):Int)=K by omega]
 refine kgo ?_
 exact aj
end Go.Proofs.YtnobdioccfeokaaGreatDoor
namespace Go.Proofs.YtnobdioccfeokaaGreatDoor
open Go.RowKit
set_option linter.unusedVariables false
set_option maxRecDepth 100000
set_option maxHeartbeats 1000000
attribute [local irreducible] ar Der At
theorem kF (xs:List Int) (hx:xs.length≤1048576):FnO Tryz.prog 54 [.l 1 (xs.map D.i)] [0] [.tk (.own (.l 1 (xs.map D.i)) none none)]:=by
 refine cT Tryz.func54 (fun hw W0=>?_)
 refine kgo ?_
 refine nu (n:=xs.length) (.i 0) ?_ rfl rfl (hb:=by show 8 * xs.length≤1000000000;omega)
 refine kgo ?_
 refine nH (ds:=List.replicate xs.length (.i 0)) 10007 (fun d hd=>by rw [(List.mem_replicate.1 hd).2];exact ⟨rfl,rfl⟩) ?_
 refine ai [0,3,10007] (fun x:Nat × List D=>x.1≤xs.length∧x.2=qS D.i (.i 0) x.1 xs) (fun x=>xs.length - x.1) (fun x=>[(4,.sy (.d (.i x.1))),(10007,.tk (.own (.l 1 x.2) none none))]) (0,List.replicate xs.length (.i 0)) ⟨Nat.zero_le _,gd _ _ _⟩ (fun x hx=>?_)
 obtain ⟨i,ds⟩:=x
 obtain ⟨hi,hd⟩:=hx
 dsimp only at hi hd ⊢
 have hdl:=iB hi hd
 refine kgt ?_
 refine aJ (fun h=>?_) (fun h=>?_)
 ·have hlt:i<xs.length:=by omega
  have hlt':i<ds.length:=by omega
  have he:=kb hlt hd
  refine kgt ?_
  refine vG i 0 (ds.set i (D.i xs[i])) he rfl ?_
  refine kgt ?_
  exact aa (i+1,ds.set i (D.i xs[i])) ⟨hlt,gi hlt hd⟩ (by show _ - (i+1)<_ - i;omega)
 rw [iA (by omega) hd]
 refine kgt ?_
 exact ik (hp:=.cons (.k rfl rfl) .nil)
theorem oU (xs:List ByteArray) (hx:wtL ed xs≤1048576):FnO Tryz.prog 23 [.l 1 (xs.map D.s)] [0] [.tk (.own (.l 1 (xs.map D.s)) none none)]:=by
 refine cT Tryz.func23 (fun hw W0=>?_)
 have hxl:=gZ ed xs
 refine kgo ?_
 refine nu (n:=xs.length) (.s ⟨#[]⟩) ?_ rfl rfl (hb:=by show 16 * xs.length≤1000000000;omega)
 refine kgo ?_
 refine nH (ds:=List.replicate xs.length (.s ⟨#[]⟩)) 10007 (fun d hd=>by rw [(List.mem_replicate.1 hd).2];exact ⟨rfl,rfl⟩) ?_
 refine ai [0,3,10007] (fun x:Nat × List D=>x.1≤xs.length∧x.2=qS D.s (.s ⟨#[]⟩) x.1 xs) (fun x=>xs.length - x.1) (fun x=>[(4,.sy (.d (.i x.1))),(10007,.tk (.own (.l 1 x.2) none none))]) (0,List.replicate xs.length (.s ⟨#[]⟩)) ⟨Nat.zero_le _,gd _ _ _⟩ (fun x hx=>?_)
 obtain ⟨i,ds⟩:=x
 obtain ⟨hi,hd⟩:=hx
 dsimp only at hi hd ⊢
 have hdl:=iB hi hd
 refine kgt ?_
 refine aJ (fun h=>?_) (fun h=>?_)
 ·have hlt:i<xs.length:=by omega
  have hlt':i<ds.length:=by omega
  have he:=kb hlt hd
  refine kgt ?_
  refine vG i 0 (ds.set i (D.s xs[i])) he rfl ?_
  refine kgt ?_
  exact aa (i+1,ds.set i (D.s xs[i])) ⟨hlt,gi hlt hd⟩ (by show _ - (i+1)<_ - i;omega)
 rw [iA (by omega) hd]
 refine kgt ?_
 exact ik (hp:=.cons (.k rfl rfl) .nil)
theorem ww (x:Ctl):FnD Tryz.prog 53 [Ctl.D x] (.d (Ctl.D x)):=by
 refine af Tryz.func53 (fun hw W0=>?_)
 refine kgo ?_
 exact aj
theorem tA (xs:List Ctl) (hx:wtL eq xs≤1048576):FnO Tryz.prog 20 [.l 3 (xs.map Ctl.D)] [0] [.tk (.own (.l 3 (xs.map Ctl.D)) none none)]:=by
 refine cT Tryz.func20 (fun hw W0=>?_)
 have hxl:=gZ eq xs
 refine kgo ?_
 refine nu (n:=xs.length) (.t [.s ⟨#[]⟩,.i 0,.i 0]) ?_ rfl rfl (hb:=by show 32 * xs.length≤1000000000;omega)
 refine kgo ?_
 refine nH (ds:=List.replicate xs.length (.t [.s ⟨#[]⟩,.i 0,.i 0])) 10007 (fun d hd=>by rw [(List.mem_replicate.1 hd).2];exact ⟨rfl,rfl⟩) ?_
 refine ai [0,3,10007] (fun x:Nat × List D=>x.1≤xs.length∧x.2=qS Ctl.D (.t [.s ⟨#[]⟩,.i 0,.i 0]) x.1 xs) (fun x=>xs.length - x.1) (fun x=>[(4,.sy (.d (.i x.1))),(10007,.tk (.own (.l 3 x.2) none none))]) (0,List.replicate xs.length (.t [.s ⟨#[]⟩,.i 0,.i 0])) ⟨Nat.zero_le _,gd _ _ _⟩ (fun x hx=>?_)
 obtain ⟨i,ds⟩:=x
 obtain ⟨hi,hd⟩:=hx
 dsimp only at hi hd ⊢
 have hdl:=iB hi hd
 refine kgt ?_
 refine aJ (fun h=>?_) (fun h=>?_)
 ·have hlt:i<xs.length:=by omega
  have hlt':i<ds.length:=by omega
  have he:=kb hlt hd
  have f:=ww xs[i]
  refine kgt ?_
  exact aa (i+1,ds.set i (Ctl.D xs[i])) ⟨hlt,gi hlt hd⟩ (by show _ - (i+1)<_ - i;omega)
 rw [iA (by omega) hd]
 refine kgt ?_
 exact ik (hp:=.cons (.k rfl rfl) .nil)
theorem ER (x:Wr):FnD Tryz.prog 105 [Wr.D x] (.d (Wr.D x)):=by
 refine af Tryz.func105 (fun hw W0=>?_)
 refine kgo ?_
 exact aj
theorem CH (xs:List Wr) (hx:wtL mG xs≤1048576):FnO Tryz.prog 59 [.l 2 (xs.map Wr.D)] [0] [.tk (.own (.l 2 (xs.map Wr.D)) none none)]:=by
 refine cT Tryz.func59 (fun hw W0=>?_)
 have hxl:=gZ mG xs
 refine kgo ?_
 refine nu (n:=xs.length) (.t [.s ⟨#[]⟩,.i 0]) ?_ rfl rfl (hb:=by show 24 * xs.length≤1000000000;omega)
 refine kgo ?_
 refine nH (ds:=List.replicate xs.length (.t [.s ⟨#[]⟩,.i 0])) 10007 (fun d hd=>by rw [(List.mem_replicate.1 hd).2];exact ⟨rfl,rfl⟩) ?_
 refine ai [0,3,10007] (fun x:Nat × List D=>x.1≤xs.length∧x.2=qS Wr.D (.t [.s ⟨#[]⟩,.i 0]) x.1 xs) (fun x=>xs.length - x.1) (fun x=>[(4,.sy (.d (.i x.1))),(10007,.tk (.own (.l 2 x.2) none none))]) (0,List.replicate xs.length (.t [.s ⟨#[]⟩,.i 0])) ⟨Nat.zero_le _,gd _ _ _⟩ (fun x hx=>?_)
 obtain ⟨i,ds⟩:=x
 obtain ⟨hi,hd⟩:=hx
 dsimp only at hi hd ⊢
 have hdl:=iB hi hd
 refine kgt ?_
 refine aJ (fun h=>?_) (fun h=>?_)
 ·have hlt:i<xs.length:=by omega
  have hlt':i<ds.length:=by omega
  have he:=kb hlt hd
  have f:=ER xs[i]
  refine kgt ?_
  exact aa (i+1,ds.set i (Wr.D xs[i])) ⟨hlt,gi hlt hd⟩ (by show _ - (i+1)<_ - i;omega)
 rw [iA (by omega) hd]
 refine kgt ?_
 exact ik (hp:=.cons (.k rfl rfl) .nil)
theorem DO (x:Nd) (hx:jx x≤1048576):FnO Tryz.prog 104 [Nd.D x] [3] [.d (.i x.control),.d (.i x.parent),.tk (.own (.l 1 (x.links.map D.i)) none none)]:=by
 have hww:jx x=(x.links).length:=rfl
 have flinks:=kF x.links (by omega)
 refine cT Tryz.func104 (fun hw W0=>?_)
 refine kgt ?_
 exact ik (hp:=.cons (.d rfl) (.cons (.d rfl) (.cons (.k rfl rfl) (.nil))))
theorem AF (xs:List Nd) (hx:wtL jx xs≤1048576):FnO Tryz.prog 58 [.l 3 (xs.map Nd.D)] [0] [.tk (.own (.l 3 (xs.map Nd.D)) none none)]:=by
 refine cT Tryz.func58 (fun hw W0=>?_)
 have hxl:=gZ jx xs
 refine kgo ?_
 refine nu (n:=xs.length) (.t [.i 0,.i 0,.n 1]) ?_ rfl rfl (hb:=by show 40 * xs.length≤1000000000;omega)
 refine kgo ?_
 refine nH (ds:=List.replicate xs.length (.t [.i 0,.i 0,.n 1])) 10007 (fun d hd=>by rw [(List.mem_replicate.1 hd).2];exact ⟨rfl,rfl⟩) ?_
 refine ai [0,3,10007] (fun x:Nat × List D=>x.1≤xs.length∧x.2=qS Nd.D (.t [.i 0,.i 0,.n 1]) x.1 xs) (fun x=>xs.length - x.1) (fun x=>[(4,.sy (.d (.i x.1))),(10007,.tk (.own (.l 3 x.2) none none))]) (0,List.replicate xs.length (.t [.i 0,.i 0,.n 1])) ⟨Nat.zero_le _,gd _ _ _⟩ (fun x hx=>?_)
 obtain ⟨i,ds⟩:=x
 obtain ⟨hi,hd⟩:=hx
 dsimp only at hi hd ⊢
 have hdl:=iB hi hd
 refine kgt ?_
 refine aJ (fun h=>?_) (fun h=>?_)
 ·have hlt:i<xs.length:=by omega
  have hlt':i<ds.length:=by omega
  have he:=kb hlt hd
  have f:=DO xs[i] (by have:=rA jx xs _ (List.getElem_mem hlt);omega)
  refine kgt ?_
  refine xc (Nd.D xs[i]) ?_
  refine kgt ?_
  exact aa (i+1,ds.set i (Nd.D xs[i])) ⟨hlt,gi hlt hd⟩ (by show _ - (i+1)<_ - i;omega)
 rw [iA (by omega) hd]
 refine kgt ?_
 exact ik (hp:=.cons (.k rfl rfl) .nil)
theorem lp (x:Big) (hx:dN x≤1048576):FnO Tryz.prog 24 [Big.D x] [6] [.d (.i x.roots),.tk (.own (.l 3 (x.nodes.map Nd.D)) none none),.tk (.own (.l 1 (x.sites.map D.i)) none none),.d (.i x.edges),.tk (.own (.l 1 (x.outer.map D.s)) none none),.tk (.own (.l 2 (x.inner.map Wr.D)) none none)]:=by
 have hww:dN x=wtL jx x.nodes+(x.sites).length+wtL ed x.outer+wtL mG x.inner:=rfl
 have fnodes:=AF x.nodes (by omega)
 have fsites:=kF x.sites (by omega)
 have fouter:=oU x.outer (by omega)
 have finner:=CH x.inner (by omega)
 refine cT Tryz.func24 (fun hw W0=>?_)
 refine kgt ?_
 exact ik (hp:=.cons (.d rfl) (.cons (.k rfl rfl) (.cons (.k rfl rfl) (.cons (.d rfl) (.cons (.k rfl rfl) (.cons (.k rfl rfl) (.nil)))))))
theorem Ef (x:Rul) (hx:dG x≤1048576):FnO Tryz.prog 57 [Rul.D x] [13] [.d (.i x.redex.roots),.tk (.own (.l 3 (x.redex.nodes.map Nd.D)) none none),.tk (.own (.l 1 (x.redex.sites.map D.i)) none none),.d (.i x.redex.edges),.tk (.own (.l 1 (x.redex.outer.map D.s)) none none),.tk (.own (.l 2 (x.redex.inner.map Wr.D)) none none),.d (.i x.reactum.roots),.tk (.own (.l 3 (x.reactum.nodes.map Nd.D)) none none),.tk (.own (.l 1 (x.reactum.sites.map D.i)) none none),.d (.i x.reactum.edges),.tk (.own (.l 1 (x.reactum.outer.map D.s)) none none),.tk (.own (.l 2 (x.reactum.inner.map Wr.D)) none none),.tk (.own (.l 1 (x.copies.map D.i)) none none)]:=by
 have hww:dG x=dN x.redex+dN x.reactum+(x.copies).length:=rfl
 have fredex:=lp x.redex (by omega)
 have freactum:=lp x.reactum (by omega)
 have fcopies:=kF x.copies (by omega)
 refine cT Tryz.func57 (fun hw W0=>?_)
 refine kgt ?_
 exact ik (hp:=.cons (.d rfl) (.cons (.k rfl rfl) (.cons (.k rfl rfl) (.cons (.d rfl) (.cons (.k rfl rfl) (.cons (.k rfl rfl) (.cons (.d rfl) (.cons (.k rfl rfl) (.cons (.k rfl rfl) (.cons (.d rfl) (.cons (.k rfl rfl) (.cons (.k rfl rfl) (.cons (.k rfl rfl) (.nil))))))))))))))
theorem AZ (xs:List Rul) (hx:wtL dG xs≤1048576):FnO Tryz.prog 22 [.l 13 (xs.map Rul.D)] [0] [.tk (.own (.l 13 (xs.map Rul.D)) none none)]:=by
 refine cT Tryz.func22 (fun hw W0=>?_)
 have hxl:=gZ dG xs
 refine kgo ?_
 refine nu (n:=xs.length) (.t [.t [.i 0,.n 3,.n 1,.i 0,.n 1,.n 2],.t [.i 0,.n 3,.n 1,.i 0,.n 1,.n 2],.n 1]) ?_ rfl rfl (hb:=by show 248 * xs.length≤1000000000;omega)
 refine kgo ?_
 refine nH (ds:=List.replicate xs.length (.t [.t [.i 0,.n 3,.n 1,.i 0,.n 1,.n 2],.t [.i 0,.n 3,.n 1,.i 0,.n 1,.n 2],.n 1])) 10007 (fun d hd=>by rw [(List.mem_replicate.1 hd).2];exact ⟨rfl,rfl⟩) ?_
 refine ai [0,3,10007] (fun x:Nat × List D=>x.1≤xs.length∧x.2=qS Rul.D (.t [.t [.i 0,.n 3,.n 1,.i 0,.n 1,.n 2],.t [.i 0,.n 3,.n 1,.i 0,.n 1,.n 2],.n 1]) x.1 xs) (fun x=>xs.length - x.1) (fun x=>[(4,.sy (.d (.i x.1))),(10007,.tk (.own (.l 13 x.2) none none))]) (0,List.replicate xs.length (.t [.t [.i 0,.n 3,.n 1,.i 0,.n 1,.n 2],.t [.i 0,.n 3,.n 1,.i 0,.n 1,.n 2],.n 1])) ⟨Nat.zero_le _,gd _ _ _⟩ (fun x hx=>?_)
 obtain ⟨i,ds⟩:=x
 obtain ⟨hi,hd⟩:=hx
 dsimp only at hi hd ⊢
 have hdl:=iB hi hd
 refine kgt ?_
 refine aJ (fun h=>?_) (fun h=>?_)
 ·have hlt:i<xs.length:=by omega
  have hlt':i<ds.length:=by omega
  have he:=kb hlt hd
  have f:=Ef xs[i] (by have:=rA dG xs _ (List.getElem_mem hlt);omega)
  refine kgt ?_
  refine xc (Rul.D xs[i]) ?_
  refine kgt ?_
  exact aa (i+1,ds.set i (Rul.D xs[i])) ⟨hlt,gi hlt hd⟩ (by show _ - (i+1)<_ - i;omega)
 rw [iA (by omega) hd]
 refine kgt ?_
 exact ik (hp:=.cons (.k rfl rfl) .nil)
end Go.Proofs.YtnobdioccfeokaaGreatDoor
namespace Go.Proofs.YtnobdioccfeokaaGreatDoor
open Go.RowKit
set_option linter.unusedVariables false
set_option linter.unusedSimpArgs false
set_option maxRecDepth 100000
set_option maxHeartbeats 4000000
attribute [local irreducible] ar Der At
attribute [local irreducible] inR cJ cN iR
abbrev Rnt.D (r:Rnt):D:=.t [.l 3 (r.sig.map Ctl.D),r.sort.D,.l 13 (r.rules.map Rul.D),DS r.hosts,r.agent.D,.i r.count]
theorem sp {r:Rnt} (h:io r≤1048576):∀x∈r.rules,x.redex.inner.length≤1048576∧x.reactum.inner.length≤1048576:=fun x hx=>by
 obtain ⟨i,hi,rfl⟩:=List.mem_iff_getElem.1 hx
 exact (rO h).1 i hi
theorem zv (l:List ByteArray):FnD Tryz.prog 46 [DS l] (.d (.b (gQ l))):=by
 refine af Tryz.func46 (fun hw W0=>?_)
 have hl:=(wfM hw.1).1
 refine kgo ?_
 refine ai [0] (fun i:Nat=>i≤l.length∧(List.range i).all (jp l)=true) (fun i=>l.length - i) (fun i=>[(3,.sy (.d (.i i)))]) 0 ⟨Nat.zero_le _,rfl⟩ (fun i hi=>?_)
 refine kgo ?_
 refine aJ (fun h=>?_) (fun h=>?_)
 ·have hlt:i<l.length:=by omega
  have hbad:=qn l i hlt
  have hok:jp l i=true→(List.range (i+1)).all (jp l)=true:=fun e=>by rw [aI,hi.2,e];rfl
  rw [tB l i hlt,show (l.take i).any (fun x=>jv x l[i])=decide (0≤jo (l.take i) l[i]) from (lM _ _).symm] at hbad hok
  have f1:=xz l[i]
  have f2:=sv (l.take i) l[i]
  refine kgo ?_
  cases h1:cJ l[i]
  ·rw [hbad (by rw [h1];rfl)]
   refine kgo ?_
   (repeat refine uu ?_)
   refine kgo ?_
   exact aj
  rw [h1,Bool.true_and] at hbad hok
  refine kgo ?_
  refine aJ (fun h2=>?_) (fun h2=>?_)
  ·rw [hbad (by rw [decide_eq_true h2];rfl)]
   refine kgo ?_
   exact aj
  refine kgo ?_
  exact aa (i+1) ⟨hlt,hok (by rw [decide_eq_false h2];rfl)⟩ (by show _ - (i+1)<_ - i;omega)
 obtain rfl:i=l.length:=by omega
 rw [show gQ l=decide ((l.length:Int)≤4) by unfold gQ;rw [hi.2,Bool.true_and];exact decide_eq_decide.2 (by omega)]
 refine kgo ?_
 exact aj
theorem sG {sig:List Ctl} {b:Big} (h:ft sig b=true):b.inner.length≤1000:=by
 unfold ft at h
 simp only [Bool.and_eq_true,decide_eq_true_eq] at h
 omega
theorem jX {r:Rnt} (h:gm r.sig r.sort=false∨dv r.sig r.rules=false∨gQ r.hosts=false∨inR r.count 0 1000=false∨ft r.sig r.agent=false):BV r=false:=by
 unfold BV
 rcases h with h|h|h|h|h <;> rw [h] <;> simp
theorem z8 {r:Rnt} (a:gm r.sig r.sort=true) (b:dv r.sig r.rules=true) (c:gQ r.hosts=true) (d:ft r.sig r.agent=true):BV r=((decide (r.agent.roots=(r.hosts.length:Int)) && (ff r.sort r.agent).isEmpty) && inR r.count 0 1000):=by
 unfold BV
 rw [a,b,c,d]
 cases inR r.count 0 1000 <;> simp
attribute [local irreducible] gm dv gQ ft ff aH
theorem Am (r:Rnt) (hwt:io r≤1048576):FnD Tryz.prog 18 [r.D] (.d (.b (BV r))):=by
 obtain ⟨_,hd2,_,_⟩:=rO hwt
 have f1:=C7 r.sig r.sort
 have f2:=BK r.sig r.rules (sp hwt)
 have f3:=zv r.hosts
 have f4:=Bl r.sig r.agent hd2
 have f5:=iM r.count 0 1000
 refine af Tryz.func18 (fun hw W0=>?_)
 refine kgo ?_
 cases h1:gm r.sig r.sort
 ·rw [jX (.inl h1)]
  refine kgo ?_
  exact aj
 refine kgo ?_
 cases h2:dv r.sig r.rules
 ·rw [jX (.inr (.inl h2))]
  refine kgo ?_
  exact aj
 refine kgo ?_
 cases h3:gQ r.hosts
 ·rw [jX (.inr (.inr (.inl h3)))]
  refine kgo ?_
  exact aj
 refine kgo ?_
 cases h4:ft r.sig r.agent
 ·rw [jX (.inr (.inr (.inr (.inr h4))))]
  refine kgo ?_
  exact aj
 rw [z8 h1 h2 h3 h4]
 have hB:=qH h4
 have f6:=yG r.sort r.agent h1 hB (sG h4)
 have e1:=pq (ff r.sort r.agent)
 refine kgo ?_
 cases h5:decide (r.agent.roots=(r.hosts.length:Int))
 ·refine kgo ?_
  exact aj
 rw [← e1,Bool.true_and]
 refine kgo ?_
 cases h6:decide (((ff r.sort r.agent).length:Int)=0)
 ·refine kgo ?_
  exact aj
 refine kgo ?_
 exact aj
theorem Do (s:ByteArray):FnD Tryz.prog 63 [.s s] (.d (.b (cJ s))):=⟨cB Tryz.func63,fun F w vs hv hF=>by
 obtain ⟨v1,t,rfl,⟨h0,h1⟩,h3⟩:=hv
 cases (show t = [] from h3)
 cases h0
 refine (dD _ _ h1).mono ?_
 rintro e w' ⟨rfl,hX⟩
 exact ⟨_,rfl,hX,rfl⟩⟩
theorem vA (r:Rnt) (hwt:io r≤1048576):FnD Tryz.prog 25 [r.D] (.d (.b (BV r))):=by
 obtain ⟨_,hd2,_,_⟩:=rO hwt
 have f1:=vC r.sig r.sort
 have f2:=yU r.sig r.rules (sp hwt)
 have f4:=Ay r.sig r.agent hd2
 have f5:=dC r.count 0 1000
 refine af Tryz.func25 (fun hw W0=>?_)
 refine kgo ?_
 cases h1:gm r.sig r.sort
 ·rw [jX (.inl h1)]
  refine kgo ?_
  exact aj
 refine kgo ?_
 cases h2:dv r.sig r.rules
 ·rw [jX (.inr (.inl h2))]
  refine kgo ?_
  exact aj
 refine kgo ?_
 cases h3:decide ((4:Int)<(r.hosts.length:Int))
 rotate_left
 ·rw [jX (.inr (.inr (.inl (we (by have:=of_decide_eq_true h3;omega)))))]
  refine kgo ?_
  exact aj
 have h3:=of_decide_eq_false h3
 refine kgo ?_
 cases h4:inR r.count 0 1000
 ·rw [jX (.inr (.inr (.inr (.inl h4))))]
  refine kgo ?_
  exact aj
 refine kgo ?_
 refine ai [1,32,33] (fun i:Nat=>i≤r.hosts.length∧(List.range i).all (jp r.hosts)=true) (fun i=>r.hosts.length - i) (fun i=>[(34,.sy (.d (.i i)))]) 0 ⟨Nat.zero_le _,rfl⟩ (fun i hi=>?_)
 refine kgo ?_
 refine aJ (fun h=>?_) (fun h=>?_)
 ·have hlt:i<r.hosts.length:=by omega
  have hbad:=qn r.hosts i hlt
  have hok:jp r.hosts i=true→(List.range (i+1)).all (jp r.hosts)=true:=fun e=>by rw [aI,hi.2,e];rfl
  rw [tB r.hosts i hlt,show (r.hosts.take i).any (fun x=>jv x r.hosts[i])=qc (r.hosts.take i) r.hosts[i] from (lM _ _).symm] at hbad hok
  have g1:=Do r.hosts[i]
  have g2:=lc (r.hosts.take i) r.hosts[i]
  refine kgo ?_
  cases e1:cJ r.hosts[i]
  ·rw [jX (.inr (.inr (.inl (hbad (by rw [e1];rfl)))))]
   refine kgo ?_
   (repeat refine uu ?_)
   refine kgo ?_
   exact aj
  rw [e1,Bool.true_and] at hbad hok
  refine kgo ?_
  refine cIf (fun e2=>?_) (fun e2=>?_)
  ·rw [jX (.inr (.inr (.inl (hbad (by rw [e2];rfl)))))]
   refine kgo ?_
   exact aj
  refine kgo ?_
  exact aa (i+1) ⟨hlt,hok (by rw [e2];rfl)⟩ (by show _ - (i+1)<_ - i;omega)
 obtain rfl:i=r.hosts.length:=by omega
 have hh:gQ r.hosts=true:=by unfold gQ;rw [hi.2,decide_eq_true (by omega)];rfl
 refine kgo ?_
 cases h6:ft r.sig r.agent
 ·rw [jX (.inr (.inr (.inr (.inr h6))))]
  refine kgo ?_
  exact aj
 rw [z8 h1 h2 hh h6,h4,Bool.and_true]
 have f6:=xZ r.sort r.agent h1 (qH h6) (sG h6)
 refine kgo ?_
 cases h7:decide (r.agent.roots=(r.hosts.length:Int))
 ·refine kgo ?_
  exact aj
 refine kgo ?_
 exact aj
def nJ (sig:List Ctl) (a:Big):List Rul→List Int→List Int × Bool
 | [],out=>(out,true)
 | r :: rs,out=>if (cX (de sig a [r] 0 [])).2 then nJ sig a rs (out++[((cX (de sig a [r] 0 [])).1.length:Int)]) else ([],false)
def cQ (r:Rnt):List Int × Bool:=if BV r then nJ r.sig r.agent r.rules [] else ([],false)
theorem xL {sig:List Ctl} {a:Big} {rs:List Rul} (i:Nat) (h:i<rs.length) (out:List Int):nJ sig a (rs.drop i) out=if (cX (de sig a [rs[i]] 0 [])).2 then nJ sig a (rs.drop (i+1)) (out++[((cX (de sig a [rs[i]] 0 [])).1.length:Int)]) else ([],false):=by
 rw [List.drop_eq_getElem_cons h];rfl
theorem tj {r:Rnt} (h:BV r=true):dv r.sig r.rules=true∧ft r.sig r.agent=true:=by
 unfold BV at h
 simp only [Bool.and_eq_true] at h
 exact ⟨h.1.2.1,h.2.1⟩
theorem tt {sig:List Ctl} {rs:List Rul} (h:dv sig rs=true):rs.length≤6:=by
 unfold dv at h
 have:=bB (Bool.and_eq_true_iff.1 h).1
 omega
theorem tP {sig:List Ctl} {rs:List Rul} (h:dv sig rs=true) {i:Nat} (hi:i<rs.length):dv sig [rs[i]]=true:=by
 unfold dv at h ⊢
 have:=List.all_eq_true.1 (Bool.and_eq_true_iff.1 h).2 _ (List.getElem_mem hi)
 simp [this,inR]
theorem py (r:Rnt) (hwt:io r≤1048576):FnD Tryz.prog 5 [r.D] (.tp [DI (cQ r).1,.b (cQ r).2]):=by
 have f1:=Am r hwt
 refine af Tryz.func5 (fun hw W0=>?_)
 unfold cQ
 refine kgo ?_
 cases h1:BV r
 ·repeat (first|(refine ca ?_;first|refine aM ?_|refine b6 ?_|refine aR ?_|refine bh ?_|refine aL ?_|refine bg ?_|refine aX ?_|refine az ?_|refine aV ?_)|(refine eG ?_;first|refine bH ?_|refine eC ?_|refine bP ?_|refine cb ?_)|(refine eT ?_;first|refine cS (fun _=>?_)|refine cd ?_|refine bR ?_|refine b9 ?_|refine bu ?_|refine bJ ?_|refine b8 ?_)|(refine eR ?_;first|refine ch ?_|refine d7 ?_|refine b7 ?_|refine bD ?_|refine bN ?_|refine bX ?_|refine bS ?_)|(refine eK ?_;first|refine eF ?_|refine eA ?_|refine bU ?_|refine bG ?_|refine eH ?_|refine bd ?_|refine bc ?_)|(refine bV ?_;first|refine cD (d:=12) ?_|refine ba ?_|refine bT ?_)|(refine eV ?_;first|refine dL (d:=12) ?_|refine bI ?_|refine bQ ?_|refine eJ ?_)|(refine bL ?_;first|refine bO ?_|refine aS ?_|refine aN ?_|refine aW ?_|refine aQ ?_|refine aY ?_)|(refine eE ?_;first|refine bZ ?_|refine eB ?_|refine be ?_|refine aP ?_|refine aU ?_)|(refine aK ?_;first|refine aq _ ?_|refine bf ?_|refine aw ?_|refine au ?_|refine ax ?_)|(refine eP ?_;first|refine bW ?_|refine bE ?_|refine bM ?_)|(refine gOp ?_;first|refine eD ?_|refine eM ?_|refine aZ ?_|refine eU ?_|refine eN ?_|refine bK ?_|refine aO ?_|refine cf ?_|refine eO ?_|refine bC ?_|refine bY ?_|refine aT ?_|refine ay ?_|refine cg ?_|refine sNo ?_|refine dU ?_|refine av ?_)|refine dY ?_|refine dq ?_|refine fj ?_|refine bj ?_|refine ci ?_|refine br ?_|refine fm ?_|refine fl ?_|refine eX ?_|refine dB ?_|refine ck ?_|refine bo ?_|refine aA ?_|refine bk ?_|refine ct ?_|refine bt ?_|refine aBlkX ?_|refine cm ?_)
  exact iS
 obtain ⟨hr,ha⟩:=tj h1
 have hrl:=tt hr
 refine kgo ?_
 refine ai [1] (fun x:Nat × List Int=>x.1≤r.rules.length∧x.2.length≤x.1∧nJ r.sig r.agent r.rules []=nJ r.sig r.agent (r.rules.drop x.1) x.2) (fun x=>r.rules.length - x.1) (fun x=>[(5,.sy (.d (.i x.1))),(4,.sy (.k 20001)),(20001,.tk (.row 1 3 (x.2.map .i)))]) (0,[]) ⟨Nat.zero_le _,Nat.zero_le _,rfl⟩ (fun x hx=>?_)
 obtain ⟨i,out⟩:=x
 obtain ⟨hi,hol,hst⟩:=hx
 dsimp only at hi hol hst ⊢
 simp only [if_true,hst]
 refine kgo ?_
 refine aJ (fun h=>?_) (fun h=>?_)
 rotate_left
 ·obtain rfl:i=r.rules.length:=by omega
  rw [List.drop_eq_nil_of_le (Nat.le_refl _),show nJ r.sig r.agent [] out=(out,true) from rfl]
  repeat (first|(refine ca ?_;first|refine aM ?_|refine b6 ?_|refine aR ?_|refine bh ?_|refine aL ?_|refine bg ?_|refine aX ?_|refine az ?_|refine aV ?_)|(refine eG ?_;first|refine bH ?_|refine eC ?_|refine bP ?_|refine cb ?_)|(refine eT ?_;first|refine cS (fun _=>?_)|refine cd ?_|refine bR ?_|refine b9 ?_|refine bu ?_|refine bJ ?_|refine b8 ?_)|(refine eR ?_;first|refine ch ?_|refine d7 ?_|refine b7 ?_|refine bD ?_|refine bN ?_|refine bX ?_|refine bS ?_)|(refine eK ?_;first|refine eF ?_|refine eA ?_|refine bU ?_|refine bG ?_|refine eH ?_|refine bd ?_|refine bc ?_)|(refine bV ?_;first|refine cD (d:=2) ?_|refine ba ?_|refine bT ?_)|(refine eV ?_;first|refine dL (d:=2) ?_|refine bI ?_|refine bQ ?_|refine eJ ?_)|(refine bL ?_;first|refine bO ?_|refine aS ?_|refine aN ?_|refine aW ?_|refine aQ ?_|refine aY ?_)|(refine eE ?_;first|refine bZ ?_|refine eB ?_|refine be ?_|refine aP ?_|refine aU ?_)|(refine aK ?_;first|refine aq _ ?_|refine bf ?_|refine aw ?_|refine au ?_|refine ax ?_)|(refine eP ?_;first|refine bW ?_|refine bE ?_|refine bM ?_)|(refine gOp ?_;first|refine eD ?_|refine eM ?_|refine aZ ?_|refine eU ?_|refine eN ?_|refine bK ?_|refine aO ?_|refine cf ?_|refine eO ?_|refine bC ?_|refine bY ?_|refine aT ?_|refine ay ?_|refine cg ?_|refine sNo ?_|refine dU ?_|refine av ?_)|refine dY ?_|refine dq ?_|refine fj ?_|refine bj ?_|refine ci ?_|refine br ?_|refine fm ?_|refine fl ?_|refine eX ?_|refine dB ?_|refine ck ?_|refine bo ?_|refine aA ?_|refine bk ?_|refine ct ?_|refine bt ?_|refine aBlkX ?_|refine cm ?_)
  exact iS
 have hlt:i<r.rules.length:=by omega
 rw [xL i hlt]
 have f2:=Ai (tP hr hlt) ha
 refine kgo ?_
 refine cIf (fun h2=>?_) (fun h2=>?_)
 ·rw [Bool.not_eq_true'] at h2
  rw [h2]
  repeat (first|(refine ca ?_;first|refine aM ?_|refine b6 ?_|refine aR ?_|refine bh ?_|refine aL ?_|refine bg ?_|refine aX ?_|refine az ?_|refine aV ?_)|(refine eG ?_;first|refine bH ?_|refine eC ?_|refine bP ?_|refine cb ?_)|(refine eT ?_;first|refine cS (fun _=>?_)|refine cd ?_|refine bR ?_|refine b9 ?_|refine bu ?_|refine bJ ?_|refine b8 ?_)|(refine eR ?_;first|refine ch ?_|refine d7 ?_|refine b7 ?_|refine bD ?_|refine bN ?_|refine bX ?_|refine bS ?_)|(refine eK ?_;first|refine eF ?_|refine eA ?_|refine bU ?_|refine bG ?_|refine eH ?_|refine bd ?_|refine bc ?_)|(refine bV ?_;first|refine cD (d:=2) ?_|refine ba ?_|refine bT ?_)|(refine eV ?_;first|refine dL (d:=2) ?_|refine bI ?_|refine bQ ?_|refine eJ ?_)|(refine bL ?_;first|refine bO ?_|refine aS ?_|refine aN ?_|refine aW ?_|refine aQ ?_|refine aY ?_)|(refine eE ?_;first|refine bZ ?_|refine eB ?_|refine be ?_|refine aP ?_|refine aU ?_)|(refine aK ?_;first|refine aq _ ?_|refine bf ?_|refine aw ?_|refine au ?_|refine ax ?_)|(refine eP ?_;first|refine bW ?_|refine bE ?_|refine bM ?_)|(refine gOp ?_;first|refine eD ?_|refine eM ?_|refine aZ ?_|refine eU ?_|refine eN ?_|refine bK ?_|refine aO ?_|refine cf ?_|refine eO ?_|refine bC ?_|refine bY ?_|refine aT ?_|refine ay ?_|refine cg ?_|refine sNo ?_|refine dU ?_|refine av ?_)|refine dY ?_|refine dq ?_|refine fj ?_|refine bj ?_|refine ci ?_|refine br ?_|refine fm ?_|refine fl ?_|refine eX ?_|refine dB ?_|refine ck ?_|refine bo ?_|refine aA ?_|refine bk ?_|refine ct ?_|refine bt ?_|refine aBlkX ?_|refine cm ?_)
  exact iS
 rw [Bool.not_eq_false'] at h2
 rw [h2,if_pos rfl]
 have hs:(out++[((cX (de r.sig r.agent [r.rules[i]] 0 [])).1.length:Int)]).map D.i=out.map D.i++[.i ((cX (de r.sig r.agent [r.rules[i]] 0 [])).1.length:Int)]:=by rw [List.map_append];rfl
 refine kgo ?_
 exact aa (i+1,out++[((cX (de r.sig r.agent [r.rules[i]] 0 [])).1.length:Int)]) ⟨hlt,by show (out++_).length≤i+1;rw [List.length_append];simp only [List.length_cons,List.length_nil];omega,rfl⟩ (by show _ - (i+1)<_ - i;omega)
theorem pw (r:Rnt) (hwt:io r≤1048576):FnO Tryz.prog 7 [r.D] [0,0] [.tk (.row 1 3 ((cQ r).1.map .i)),.d (.b (cQ r).2)]:=by
 have f1:=vA r hwt
 refine cT Tryz.func7 (fun hw W0=>?_)
 unfold cQ
 refine kgo ?_
 cases h1:BV r
 ·refine kgo ?_
  exact ik (hp:=.cons .n (.cons (.d rfl) .nil))
 obtain ⟨hr,ha⟩:=tj h1
 have hrl:=tt hr
 refine kgo ?_
 refine ai [1,14] (fun x:Nat × List Int=>x.1≤r.rules.length∧x.2.length≤x.1∧nJ r.sig r.agent r.rules []=nJ r.sig r.agent (r.rules.drop x.1) x.2) (fun x=>r.rules.length - x.1) (fun x=>[(15,.sy (.d (.i x.1))),(4,.sy (.k 20001)),(20001,.tk (.row 1 3 (x.2.map .i)))]) (0,[]) ⟨Nat.zero_le _,Nat.zero_le _,rfl⟩ (fun x hx=>?_)
 obtain ⟨i,out⟩:=x
 obtain ⟨hi,hol,hst⟩:=hx
 dsimp only at hi hol hst ⊢
 simp only [if_true,hst]
 refine kgo ?_
 refine aJ (fun h=>?_) (fun h=>?_)
 rotate_left
 ·obtain rfl:i=r.rules.length:=by omega
  rw [List.drop_eq_nil_of_le (Nat.le_refl _),show nJ r.sig r.agent [] out=(out,true) from rfl]
  refine kgo ?_
  exact ik (hp:=.cons (.k rfl rfl) (.cons (.d rfl) .nil))
 have hlt:i<r.rules.length:=by omega
 rw [xL i hlt]
 have f2:=A0 (tP hr hlt) ha
 refine kgo ?_
 refine I4 (fun _=>?_)
 refine kgo ?_
 refine cIf (fun h2=>?_) (fun h2=>?_)
 ·rw [Bool.not_eq_true'] at h2
  rw [h2]
  refine kgo ?_
  exact ik (hp:=.cons .n (.cons (.d rfl) .nil))
 rw [Bool.not_eq_false'] at h2
 rw [h2,if_pos rfl]
 have hs:(out++[((cX (de r.sig r.agent [r.rules[i]] 0 [])).1.length:Int)]).map D.i=out.map D.i++[.i ((((cX (de r.sig r.agent [r.rules[i]] 0 [])).1.map Stp.D).length:Nat):Int)]:=by rw [List.map_append,List.length_map];rfl
 refine kgo ?_
 exact aa (i+1,out++[((cX (de r.sig r.agent [r.rules[i]] 0 [])).1.length:Int)]) ⟨hlt,by show (out++_).length≤i+1;rw [List.length_append];simp only [List.length_cons,List.length_nil];omega,rfl⟩ (by show _ - (i+1)<_ - i;omega)
end Go.Proofs.YtnobdioccfeokaaGreatDoor
namespace Go.Proofs.YtnobdioccfeokaaGreatDoor
open Go.RowKit Go.ChangeShapes Go.WideShapes Go.ChangeAt Go.Joins
set_option linter.unusedVariables false
set_option linter.unusedSimpArgs false
set_option maxRecDepth 100000
section
variable {H:Type} {enc:TypeId × Value→H} {w:World}
theorem qx:Tryz.prog.cellsOf 138=2:=by kernel_rfl
theorem x8:fe enc Tryz.prog w 138 (LD cH):=by
 intro fuel cs x h
 obtain ⟨xs,n,_,_,hl,hlen,hf⟩:=DataW.trod_array Tryz.underlying138 h
 rw [qx] at hl
 obtain ⟨c0,c1,rfl⟩:=Iw hl
 have e0:=hf 0 (by omega)
 have e1:=hf 1 (by omega)
 rw [eQ,List.getElem?_eq_getElem (by omega)] at e0 e1
 obtain ⟨x0,b0⟩:=gX (enc:=enc) (w:=w) _ _ _ (show DataW.trod enc Tryz.prog w 0 (fun _=>true) true n 3 [c0]=some _ by simpa using e0)
 obtain ⟨x1,b1⟩:=gX (enc:=enc) (w:=w) _ _ _ (show DataW.trod enc Tryz.prog w 0 (fun _=>true) true n 3 [c1]=some _ by simpa using e1)
 exact ⟨(x0,x1),[c0],_,rfl,b0,[c1],_,rfl,b1,rfl⟩
theorem zr:fe enc Tryz.prog w 23 (LD DI):=fun fuel cs x h=>by obtain ⟨v,xs,rfl,h2⟩:=gJ fuel cs x h;exact ⟨xs,h2⟩
theorem oI:Tryz.prog.cellsOf 24=1:=by kernel_rfl
theorem oe:∀fuel cs x,DataW.trod enc Tryz.prog w 0 (fun _=>true) true fuel 24 cs=some x→∃v xs,cs = [v]∧Rp w (fun b=>b<w.heap.size) (.l 1 (List.map DI xs)) [v]:=fun fuel cs x h=>by obtain ⟨v,xs,h1,h2⟩:=dS Tryz.underlying24 gL (by decide) zr fuel cs x h;exact ⟨v,xs,h1,nf h2⟩
theorem wF:Tryz.prog.cellsOf 25=1:=by kernel_rfl
theorem uL:∀fuel cs x,DataW.trod enc Tryz.prog w 0 (fun _=>true) true fuel 25 cs=some x→∃v xs,cs = [v]∧Rp w (fun b=>b<w.heap.size) (.l 2 (List.map cH xs)) [v]:=fun fuel cs x h=>by obtain ⟨v,xs,h1,h2⟩:=dS Tryz.underlying25 qx (by decide) x8 fuel cs x h;exact ⟨v,xs,h1,nf h2⟩
theorem lN:Tryz.prog.cellsOf 27=5:=by kernel_rfl
theorem qT:fe enc Tryz.prog w 27 (LD Srt.D):=by
 intro fuel cs x h
 obtain ⟨hl,n,hf⟩:=fh Tryz.underlying27 h
 rw [lN] at hl
 obtain ⟨c0,c1,c2,c3,c4,rfl⟩:∃c0 c1 c2 c3 c4,cs = [c0,c1,c2,c3,c4]:=by
  match cs,hl with
  | [c0,c1,c2,c3,c4],_=>exact ⟨c0,c1,c2,c3,c4,rfl⟩
 obtain ⟨y0,e0⟩:=hf 0 _ rfl
 replace e0:DataW.trod enc Tryz.prog w 0 (fun _=>true) true n 23 [c0]=some y0:=by simpa [gL] using e0
 obtain ⟨v0,x0,h0,b0⟩:=gJ _ _ _ e0
 obtain rfl:=(List.cons.inj h0).1
 obtain ⟨y1,e1⟩:=hf 1 _ rfl
 replace e1:DataW.trod enc Tryz.prog w 0 (fun _=>true) true n 24 [c1]=some y1:=by simpa [oI] using e1
 obtain ⟨v1,x1,h1,b1⟩:=oe _ _ _ e1
 obtain rfl:=(List.cons.inj h1).1
 obtain ⟨y2,e2⟩:=hf 2 _ rfl
 replace e2:DataW.trod enc Tryz.prog w 0 (fun _=>true) true n 24 [c2]=some y2:=by simpa [oI] using e2
 obtain ⟨v2,x2,h2,b2⟩:=oe _ _ _ e2
 obtain rfl:=(List.cons.inj h2).1
 obtain ⟨y3,e3⟩:=hf 3 _ rfl
 replace e3:DataW.trod enc Tryz.prog w 0 (fun _=>true) true n 23 [c3]=some y3:=by simpa [gL] using e3
 obtain ⟨v3,x3,h3,b3⟩:=gJ _ _ _ e3
 obtain rfl:=(List.cons.inj h3).1
 obtain ⟨y4,e4⟩:=hf 4 _ rfl
 replace e4:DataW.trod enc Tryz.prog w 0 (fun _=>true) true n 25 [c4]=some y4:=by simpa [wF] using e4
 obtain ⟨v4,x4,h4,b4⟩:=uL _ _ _ e4
 obtain rfl:=(List.cons.inj h4).1
 exact ⟨⟨x0,x1,x2,x3,x4⟩,[c0],_,rfl,b0,[c1],_,rfl,b1,[c2],_,rfl,b2,[c3],_,rfl,b3,[c4],_,rfl,b4,rfl⟩
theorem ry:Tryz.prog.cellsOf 35=15:=by kernel_rfl
theorem rS:fe enc Tryz.prog w 35 (LD Rnt.D):=by
 intro fuel cs x h
 obtain ⟨hl,n,hf⟩:=fh Tryz.underlying35 h
 rw [ry] at hl
 obtain ⟨c0,c1,c2,c3,c4,c5,c6,c7,c8,c9,c10,c11,c12,c13,c14,rfl⟩:∃c0 c1 c2 c3 c4 c5 c6 c7 c8 c9 c10 c11 c12 c13 c14,cs = [c0,c1,c2,c3,c4,c5,c6,c7,c8,c9,c10,c11,c12,c13,c14]:=by
  match cs,hl with
  | [c0,c1,c2,c3,c4,c5,c6,c7,c8,c9,c10,c11,c12,c13,c14],_=>exact ⟨c0,c1,c2,c3,c4,c5,c6,c7,c8,c9,c10,c11,c12,c13,c14,rfl⟩
 obtain ⟨y0,e0⟩:=hf 0 _ rfl
 replace e0:DataW.trod enc Tryz.prog w 0 (fun _=>true) true n 22 [c0]=some y0:=by simpa [pO] using e0
 obtain ⟨v0,x0,h0,b0⟩:=pS _ _ _ e0
 obtain rfl:=(List.cons.inj h0).1
 obtain ⟨y1,e1⟩:=hf 1 _ rfl
 replace e1:DataW.trod enc Tryz.prog w 0 (fun _=>true) true n 27 [c1,c2,c3,c4,c5]=some y1:=by simpa [lN] using e1
 obtain ⟨x1,b1⟩:=qT _ _ _ e1
 obtain ⟨y2,e2⟩:=hf 2 _ rfl
 replace e2:DataW.trod enc Tryz.prog w 0 (fun _=>true) true n 28 [c6]=some y2:=by simpa [vL] using e2
 obtain ⟨v2,x2,h2,b2⟩:=vE _ _ _ e2
 obtain rfl:=(List.cons.inj h2).1
 obtain ⟨y3,e3⟩:=hf 3 _ rfl
 replace e3:DataW.trod enc Tryz.prog w 0 (fun _=>true) true n 29 [c7]=some y3:=by simpa [mh] using e3
 obtain ⟨v3,x3,h3,b3⟩:=lE _ _ _ e3
 obtain rfl:=(List.cons.inj h3).1
 obtain ⟨y4,e4⟩:=hf 4 _ rfl
 replace e4:DataW.trod enc Tryz.prog w 0 (fun _=>true) true n 33 [c8,c9,c10,c11,c12,c13]=some y4:=by simpa [gE] using e4
 obtain ⟨x4,b4⟩:=jm _ _ _ e4
 obtain ⟨y5,e5⟩:=hf 5 _ rfl
 replace e5:DataW.trod enc Tryz.prog w 0 (fun _=>true) true n 3 [c14]=some y5:=by simpa [eQ] using e5
 obtain ⟨x5,b5⟩:=gX _ _ _ e5
 exact ⟨⟨x0,x1,x2,x3,x4,x5⟩,[c0],_,rfl,b0,[c1,c2,c3,c4,c5],_,rfl,b1,[c6],_,rfl,b2,[c7],_,rfl,b3,[c8,c9,c10,c11,c12,c13],_,rfl,b4,[c14],_,rfl,b5,rfl⟩
end
end Go.Proofs.YtnobdioccfeokaaGreatDoor
namespace Go.Proofs.YtnobdioccfeokaaGreatDoor
open Go.RowKit
set_option linter.unusedVariables false
set_option maxRecDepth 100000
set_option maxHeartbeats 1000000
attribute [local irreducible] ar Der At
theorem sA (xs:List (List Int)):FnD Tryz.prog 72 [.l 1 (xs.map DI),.l 1 (xs.map DI)] (.d (.b true)):=by
 refine af Tryz.func72 (fun hw W0=>?_)
 have hl:=(wfM hw.1).1
 refine kgo ?_
 refine kp (fun h=>absurd rfl h) (fun _=>?_)
 refine kgo ?_
 refine ai [0,1] (fun i:Nat=>i≤xs.length) (fun i=>xs.length - i) (fun i=>[(5,.sy (.d (.i i)))]) 0 (Nat.zero_le _) (fun i hi=>?_)
 refine kgo ?_
 refine aJ (fun h=>?_) (fun h=>?_)
 ·have hlt:i<xs.length:=by omega
  have f:=gG xs[i]
  refine kgo ?_
  exact aa (i+1) hlt (by show _ - (i+1)<_ - i;omega)
 refine kgo ?_
 exact aj
theorem B1 (x:Int × Int):FnD Tryz.prog 132 [cH x,cH x] (.d (.b true)):=by
 refine af Tryz.func132 (fun hw W0=>?_)
 refine kgo ?_
 refine ai [2,3] (fun j:Nat=>j≤2) (fun j=>2 - j) (fun j=>[(5,.sy (.d (.i j)))]) 0 (Nat.zero_le _) (fun j hj=>?_)
 have hj2:j=0∨j=1∨j=2:=by omega
 rcases hj2 with rfl|rfl|rfl
 ·refine kgo ?_
  refine kp (fun h=>absurd rfl h) (fun _=>?_)
  refine kgo ?_
  exact aa 1 (by omega) (by show _ - 1<_ - 0;omega)
 ·refine kgo ?_
  refine kp (fun h=>absurd rfl h) (fun _=>?_)
  refine kgo ?_
  exact aa 2 (by omega) (by show _ - 2<_ - 1;omega)
 ·refine kgo ?_
  exact aj
theorem zy (xs:List (Int × Int)):FnD Tryz.prog 73 [.l 2 (xs.map cH),.l 2 (xs.map cH)] (.d (.b true)):=by
 refine af Tryz.func73 (fun hw W0=>?_)
 have hl:=(wfM hw.1).1
 refine kgo ?_
 refine kp (fun h=>absurd rfl h) (fun _=>?_)
 refine kgo ?_
 refine ai [0,1] (fun i:Nat=>i≤xs.length) (fun i=>xs.length - i) (fun i=>[(5,.sy (.d (.i i)))]) 0 (Nat.zero_le _) (fun i hi=>?_)
 refine kgo ?_
 refine aJ (fun h=>?_) (fun h=>?_)
 ·have hlt:i<xs.length:=by omega
  have f:=B1 xs[i]
  refine kgo ?_
  exact aa (i+1) hlt (by show _ - (i+1)<_ - i;omega)
 refine kgo ?_
 exact aj
theorem vS (x:Srt):FnD Tryz.prog 28 [Srt.D x,Srt.D x] (.d (.b true)):=by
 have ftops:=gG x.tops
 have fnest:=sA x.nest
 have fsorts:=sA x.sorts
 have fmost:=gG x.most
 have fapart:=zy x.apart
 refine af Tryz.func28 (fun hw W0=>?_)
 refine kgo ?_
 exact aj
theorem uO (x:Rnt):FnD Tryz.prog 9 [Rnt.D x,Rnt.D x] (.d (.b true)):=by
 have fsig:=tG x.sig
 have fsort:=vS x.sort
 have frules:=Cj x.rules
 have fhosts:=od x.hosts
 have fagent:=ld x.agent
 refine af Tryz.func9 (fun hw W0=>?_)
 refine kgo ?_
 refine kp (fun h=>absurd rfl h) (fun _=>?_)
 refine kgo ?_
 exact aj
end Go.Proofs.YtnobdioccfeokaaGreatDoor
namespace Go.Proofs.YtnobdioccfeokaaGreatDoor
open Go.RowKit
set_option linter.unusedVariables false
set_option maxRecDepth 100000
set_option maxHeartbeats 1000000
attribute [local irreducible] ar Der At
attribute [local irreducible] szR
theorem tF (xs:List (List Int)) (left:Int) (h0:0≤left) (h1:left≤1048576):FnD Tryz.prog 39 [.l 1 (xs.map DI),.i left] (.d (.i (szR (wtL List.length xs) left))):=by
 have hww:wtL List.length xs=xs.length+(xs.map List.length).sum:=rfl
 refine af Tryz.func39 (fun hw W0=>?_)
 have hl:=(wfM hw.1).1
 refine kgo ?_
 refine aJ (fun h=>?_) (fun h=>?_)
 ·rw [szN (by omega)]
  refine kgo ?_
  exact aj
 refine kgo ?_
 refine ai [0] (fun x:Nat × Int=>x.1≤xs.length∧0≤x.2∧x.2=left - xs.length - (((xs.take x.1).map List.length).sum:Nat)) (fun x=>xs.length - x.1) (fun x=>[(1,.sy (.d (.i x.2))),(5,.sy (.d (.i x.1)))]) (0,left - xs.length) ⟨Nat.zero_le _,by show 0≤left - (xs.length:Int);omega,by simp⟩ (fun x hx=>?_)
 obtain ⟨i,K⟩:=x
 obtain ⟨hi,hK0,hK⟩:=hx
 dsimp only at hi hK hK0 ⊢
 refine kgo ?_
 refine aJ (fun h=>?_) (fun h=>?_)
 ·have hlt:i<xs.length:=by omega
  have hs:=kj List.length xs i hlt
  have hle:=fd List.length xs (i+1)
  have f:=ko xs[i] K hK0 (by omega)
  by_cases hz:((List.length xs[i]:Nat):Int)≤K
  ·rw [szP hz] at f
   refine kgo ?_
   refine aJ (fun h=>?_) (fun h=>?_)
   ·omega
   refine kgo ?_
   exact aa (i+1,K - (List.length xs[i]:Nat)) ⟨hlt,by show 0≤K - ((List.length xs[i]:Nat):Int);omega,by show K - ((List.length xs[i]:Nat):Int)=left - xs.length - (((xs.take (i+1)).map List.length).sum:Nat);omega⟩ (by show _ - (i+1)<_ - i;omega)
  rw [szN hz] at f
  rw [szN (by omega)]
  refine kgo ?_
  exact aj
 obtain rfl:i=xs.length:=by omega
 rw [List.take_length] at hK
 rw [szP (by omega),show left - ((wtL List.length xs:Nat):Int)=K by omega]
 refine kgo ?_
 exact aj
theorem y9 (xs:List (Int × Int)) (left:Int) (h0:0≤left) (h1:left≤1048576):FnD Tryz.prog 40 [.l 2 (xs.map cH),.i left] (.d (.i (szR xs.length left))):=by
 refine af Tryz.func40 (fun hw W0=>?_)
 have hl:=(wfM hw.1).1
 refine kgo ?_
 refine aJ (fun h=>?_) (fun h=>?_)
 ·rw [szN (by omega)]
  refine kgo ?_
  exact aj
 rw [szP (by omega)]
 refine kgo ?_
 exact aj
theorem vD (x:Srt) (left:Int) (h0:0≤left) (h1:left≤1048576):FnD Tryz.prog 14 [Srt.D x,.i left] (.d (.i (szR (iI x) left))):=by
 have hww:iI x=(x.tops).length+wtL List.length x.nest+wtL List.length x.sorts+(x.most).length+(x.apart).length:=rfl
 refine af Tryz.func14 (fun hw W0=>?_)
 have ftops:=ko x.tops (left) (by omega) (by omega)
 by_cases htops:(((x.tops).length:Nat):Int)≤left
 rotate_left
 ·rw [szN htops] at ftops
  rw [szN (by omega)]
  refine kgo ?_
  exact aj
 rw [szP htops] at ftops
 refine kgo ?_
 refine aJ (fun h=>?_) (fun h=>?_)
 ·omega
 have fnest:=tF x.nest (left - ((x.tops).length:Nat)) (by omega) (by omega)
 by_cases hnest:((wtL List.length x.nest:Nat):Int)≤left - ((x.tops).length:Nat)
 rotate_left
 ·rw [szN hnest] at fnest
  rw [szN (by omega)]
  refine kgo ?_
  exact aj
 rw [szP hnest] at fnest
 refine kgo ?_
 refine aJ (fun h=>?_) (fun h=>?_)
 ·omega
 have fsorts:=tF x.sorts (left - ((x.tops).length:Nat) - (wtL List.length x.nest:Nat)) (by omega) (by omega)
 by_cases hsorts:((wtL List.length x.sorts:Nat):Int)≤left - ((x.tops).length:Nat) - (wtL List.length x.nest:Nat)
 rotate_left
 ·rw [szN hsorts] at fsorts
  rw [szN (by omega)]
  refine kgo ?_
  exact aj
 rw [szP hsorts] at fsorts
 refine kgo ?_
 refine aJ (fun h=>?_) (fun h=>?_)
 ·omega
 have fmost:=ko x.most (left - ((x.tops).length:Nat) - (wtL List.length x.nest:Nat) - (wtL List.length x.sorts:Nat)) (by omega) (by omega)
 by_cases hmost:(((x.most).length:Nat):Int)≤left - ((x.tops).length:Nat) - (wtL List.length x.nest:Nat) - (wtL List.length x.sorts:Nat)
 rotate_left
 ·rw [szN hmost] at fmost
  rw [szN (by omega)]
  refine kgo ?_
  exact aj
 rw [szP hmost] at fmost
 refine kgo ?_
 refine aJ (fun h=>?_) (fun h=>?_)
 ·omega
 have fapart:=y9 x.apart (left - ((x.tops).length:Nat) - (wtL List.length x.nest:Nat) - (wtL List.length x.sorts:Nat) - ((x.most).length:Nat)) (by omega) (by omega)
 by_cases hapart:(((x.apart).length:Nat):Int)≤left - ((x.tops).length:Nat) - (wtL List.length x.nest:Nat) - (wtL List.length x.sorts:Nat) - ((x.most).length:Nat)
 rotate_left
 ·rw [szN hapart] at fapart
  rw [szN (by omega)]
  refine kgo ?_
  exact aj
 rw [szP hapart] at fapart
 refine kgo ?_
 refine aJ (fun h=>?_) (fun h=>?_)
 ·omega
 rw [szP (by omega),show left - ((iI x:Nat):Int)=left - ((x.tops).length:Nat) - (wtL List.length x.nest:Nat) - (wtL List.length x.sorts:Nat) - ((x.most).length:Nat) - ((x.apart).length:Nat) by omega]
 refine kgo ?_
 exact aj
theorem vH (x:Rnt) (left:Int) (h0:0≤left) (h1:left≤1048576):FnD Tryz.prog 4 [Rnt.D x,.i left] (.d (.i (szR (io x) left))):=by
 have hww:io x=wtL eq x.sig+iI x.sort+wtL dG x.rules+wtL ed x.hosts+dN x.agent:=rfl
 refine af Tryz.func4 (fun hw W0=>?_)
 have fsig:=s7 x.sig (left) (by omega) (by omega)
 by_cases hsig:((wtL eq x.sig:Nat):Int)≤left
 rotate_left
 ·rw [szN hsig] at fsig
  rw [szN (by omega)]
  refine kgo ?_
  exact aj
 rw [szP hsig] at fsig
 refine kgo ?_
 refine aJ (fun h=>?_) (fun h=>?_)
 ·omega
 have fsort:=vD x.sort (left - (wtL eq x.sig:Nat)) (by omega) (by omega)
 by_cases hsort:((iI x.sort:Nat):Int)≤left - (wtL eq x.sig:Nat)
 rotate_left
 ·rw [szN hsort] at fsort
  rw [szN (by omega)]
  refine kgo ?_
  exact aj
 rw [szP hsort] at fsort
 refine kgo ?_
 refine aJ (fun h=>?_) (fun h=>?_)
 ·omega
 have frules:=A3 x.rules (left - (wtL eq x.sig:Nat) - (iI x.sort:Nat)) (by omega) (by omega)
 by_cases hrules:((wtL dG x.rules:Nat):Int)≤left - (wtL eq x.sig:Nat) - (iI x.sort:Nat)
 rotate_left
 ·rw [szN hrules] at frules
  rw [szN (by omega)]
  refine kgo ?_
  exact aj
 rw [szP hrules] at frules
 refine kgo ?_
 refine aJ (fun h=>?_) (fun h=>?_)
 ·omega
 have fhosts:=om x.hosts (left - (wtL eq x.sig:Nat) - (iI x.sort:Nat) - (wtL dG x.rules:Nat)) (by omega) (by omega)
 by_cases hhosts:((wtL ed x.hosts:Nat):Int)≤left - (wtL eq x.sig:Nat) - (iI x.sort:Nat) - (wtL dG x.rules:Nat)
 rotate_left
 ·rw [szN hhosts] at fhosts
  rw [szN (by omega)]
  refine kgo ?_
  exact aj
 rw [szP hhosts] at fhosts
 refine kgo ?_
 refine aJ (fun h=>?_) (fun h=>?_)
 ·omega
 have fagent:=lh x.agent (left - (wtL eq x.sig:Nat) - (iI x.sort:Nat) - (wtL dG x.rules:Nat) - (wtL ed x.hosts:Nat)) (by omega) (by omega)
 by_cases hagent:((dN x.agent:Nat):Int)≤left - (wtL eq x.sig:Nat) - (iI x.sort:Nat) - (wtL dG x.rules:Nat) - (wtL ed x.hosts:Nat)
 rotate_left
 ·rw [szN hagent] at fagent
  rw [szN (by omega)]
  refine kgo ?_
  exact aj
 rw [szP hagent] at fagent
 refine kgo ?_
 refine aJ (fun h=>?_) (fun h=>?_)
 ·omega
 rw [szP (by omega),show left - ((io x:Nat):Int)=left - (wtL eq x.sig:Nat) - (iI x.sort:Nat) - (wtL dG x.rules:Nat) - (wtL ed x.hosts:Nat) - (dN x.agent:Nat) by omega]
 refine kgo ?_
 exact aj
end Go.Proofs.YtnobdioccfeokaaGreatDoor
namespace Go.Proofs.YtnobdioccfeokaaGreatDoor
open Go.RowKit
set_option linter.unusedVariables false
set_option linter.unusedSimpArgs false
set_option maxRecDepth 100000
theorem I7 {w:World} {S:BS} {v:Value} {xs:List D} {z n:Nat} (hO:Ow w (.l z xs) S [v]) (hn:n<xs.length):∃b o k,v=.slice (some ⟨b,o,none⟩) xs.length k∧∀j,j<z→(∃u,w.cell? ⟨b,o+n * z+j,none⟩=some u)∧w.frozen? ⟨b,o+n * z+j,none⟩=false:=by
 obtain ⟨a,k,e1,e2,e3,e4,e5⟩:=hO
 rcases e5 with e5|⟨b,o,U,rfl,f2,f3,f4,f5,f6⟩
 ·rw [e5] at hn;exact absurd hn (Nat.not_lt_zero _)
 obtain ⟨Tn,cs,k1,k2,k3,k4,_⟩:=EE xs n U z b o f6 hn
 exact ⟨b,o,k,(List.cons.inj e1).1,fun j hj=>⟨⟨_,k4 j _ (List.getElem?_eq_getElem (by omega))⟩,f4 _⟩⟩
section
variable {P:Program} {ops:Array Oper} {W0:cz} {N:Nat} {Fin:Us→Env→Prop} {os:List Oper} {us:Us} {pk fk:List Nat} {σ:Env} {g:Option (Nat × Bool)} {gk:List Nat} {d ty ty' f:Nat} {pos:String} {after:Array Edge} {at':Array TypeId} {x y:Operand} {i z n q e:Nat} {xs ds:List D}
theorem C5 {j z':Nat} {ys:List D} (h:Der P ops W0 N Fin os (us++[((gk++(i :: (cP [.k j]++(kx x++kx y))))++pk,(((i,In.tk (.own (.l 1 (xs.set n (.l z' ys))) none none)) :: (cP [.k j]).map fun κ=>(κ,In.no)).map Prod.fst)++fk)]) [] [] (((i,.tk (.own (.l 1 (xs.set n (.l z' ys))) none none)) :: (cP [.k j]).map fun κ=>(κ,.no))++σ)) (hx:ev σ x=some (.eo i q):=by rfl) (hi:al σ i=some (.tk (.own (.l 1 xs) none none)):=by rfl) (hq:q=n * 1:=by rfl) (hy:ev σ y=some (.k j):=by rfl) (ho:jq σ [.k j]=some [.l z' ys]:=by rfl) (hni:((cP [.k j]).all fun κ=>!(Nat.beq κ i))=true:=by rfl) (h1 : [Sy.k j].all (pu σ)=true:=by rfl) (hz:sizeOf? P ty'=some 1:=by rfl) (hg:gst ops σ g=some (true,gk):=by rfl) (hn:n<xs.length:=by first|assumption|(rw [List.length_set];assumption)):Der P ops W0 N Fin (⟨none,.store ty' x y,ty,pos,after,g⟩ :: os) us pk fk σ:=
 lq (i :: (cP [.k j]++(kx x++kx y))) ((i,.tk (.own (.l 1 (xs.set n (.l z' ys))) none none)) :: (cP [.k j]).map fun κ=>(κ,.no)) (fun σ' c a w hk hc=>by
  subst hq
  obtain ⟨ss,hss⟩:∃ss,ss = [Sy.k j]:=⟨_,rfl⟩
  obtain ⟨es,hes⟩:∃es,es = [D.l z' ys]:=⟨_,rfl⟩
  have hd:zV ss=true:=by rw [hss];rfl
  have hl:ss.length=1:=by rw [hss];rfl
  rw [← hss] at hk ho hni h1 ⊢
  rw [← hes] at ho
  have hks:∀κ∈cP ss,al σ' κ=al σ κ:=fun κ hκ=>hk κ (by simp [hκ])
  have ho':=(kq ss hks).trans ho
  have hi':=(hk i (by simp)).trans hi
  obtain ⟨hA,⟨hO,_,_⟩,hlt⟩:=hc.tok i _ hi'
  obtain ⟨_,b',o',m',k',e1,e2⟩:=ap hc (ah hx (fun κ hκ=>hk κ (by simp [hκ])))
  have e3:=ap hc (ah hy (fun κ hκ=>hk κ (by simp [hκ])))
  obtain ⟨us',hus⟩:∃us',us' = [a.eval y]:=⟨_,rfl⟩
  have e4:Sy.oks c w ss us':=by rw [hss,hus];exact ⟨_,_,rfl,e3,rfl⟩
  obtain ⟨p1,p2,p3⟩:=rk hc ss es us' ho' e4
  have hkey:∀(m κ:Nat),ss[m]? = some (.k κ)→κ∈cP ss∧∃t,al σ' κ=some (.tk t):=fun m κ hm=>by
   have:∀(ss:List Sy) (es:List D) (m:Nat),jq σ' ss=some es→ss[m]? = some (.k κ)→κ∈cP ss∧∃t,al σ' κ=some (.tk t):=by
    intro ss
    induction ss with
    | nil=>intro es m _ hm;simp at hm
    | cons s ss ih=>
     intro es m ho hm
     have tl:∃es',jq σ' ss=some es':=by
      cases s with
      | k j=>unfold jq at ho;split at ho;exact ⟨_,by assumption⟩;cases ho
      | d r=>unfold jq at ho;split at ho;exact ⟨_,by assumption⟩;cases ho
      | _=>cases ho
     obtain ⟨es',hes'⟩:=tl
     cases m with
     | zero=>
      simp at hm
      subst hm
      refine ⟨by simp [cP,kSy],?_⟩
      unfold jq at ho
      split at ho
      ·exact ⟨_,by assumption⟩
      ·cases ho
     | succ m=>
      obtain ⟨q1,q2⟩:=ih es' m hes' (by simpa using hm)
      exact ⟨by simp [cP,q1],q2⟩
   exact this ss es m ho' hm
  have htk:∀(m b:Nat),tkT c ss[m]? b→∃κ,ss[m]? = some (.k κ)∧c.T κ b:=fun m b hb=>by
   cases hm:ss[m]? with
   | none=>rw [hm] at hb;exact hb.elim
   | some s=>
    rw [hm] at hb
    cases s with
    | k κ=>exact ⟨κ,rfl,hb⟩
    | _=>exact hb.elim
  have hcells:=pj es us' (fun m=>tkT c ss[m]?) p1 p3 (fun m m' hmm b hb hb'=>by
   obtain ⟨κ,q1,q2⟩:=htk m b hb
   obtain ⟨κ',q3,q4⟩:=htk m' b hb'
   have hne:κ≠κ':=by
    rcases Nat.lt_or_ge m m' with hlt|hge
    ·exact iL ss m m' κ κ' hd hlt q1 q3
    ·exact fun e=>iL ss m' m κ' κ hd (by omega) q3 q1 e.symm
   obtain ⟨t,ht⟩:=(hkey m κ q1).2
   obtain ⟨t',ht'⟩:=(hkey m' κ' q3).2
   exact hc.off κ κ' t t' ht ht' hne b q2 q4)
  have hV:∀b,(∃m:Nat,tkT c ss[m]? b)→∃κ,κ∈cP ss∧c.T κ b:=fun b ⟨m,hb⟩=>by
   obtain ⟨κ,q1,q2⟩:=htk m b hb
   exact ⟨κ,(hkey m κ q1).1,q2⟩
  have hkt:∀κ∈cP ss,κ≠i∧∃t,al σ' κ=some (.tk t):=fun κ hκ=>by
   refine ⟨fun e=>?_,?_⟩
   ·have:=List.all_eq_true.1 hni κ hκ
    rw [e] at this;simp at this
   ·have:∀(ss:List Sy),κ∈cP ss→∃m:Nat,ss[m]? = some (Sy.k κ):=by
     intro ss
     induction ss with
     | nil=>intro h;simp [cP] at h
     | cons s ss ih=>
      intro h
      rw [cP,List.mem_append] at h
      rcases h with h|h
      ·cases s with
       | k j=>simp [kSy] at h;subst h;exact ⟨0,rfl⟩
       | _=>simp [kSy] at h
      ·obtain ⟨m,hm⟩:=ih h;exact ⟨m+1,by simpa using hm⟩
    obtain ⟨m,hm⟩:=this ss hκ
    exact (hkey m κ hm).2
  have hr':Ow w (.l z' ys) (fun b=>∃m:Nat,tkT c ss[m]? b) us':=xu (.l z' ys) _ us' (by rw [show Gf (D.l z' ys)=es from hes.symm ▸ rfl];exact hcells)
  obtain ⟨b,o,k,f1,f2,f3,f4⟩:=GF hO hn hr' ((cM _ _ e4).trans hl) (List.all_eq_true.2 (mD hc ss us' e4 ((fo hks).trans h1))) (fun b hb=>by
   obtain ⟨κ,q1,q2⟩:=hV b hb
   obtain ⟨q3,t,q4⟩:=hkt κ q1
   exact ⟨hc.off κ i t _ q4 hi' q3 b q2,((hc.tok κ t q4).2.2 b q2).2.1⟩)
  obtain ⟨b0,o0,k0,g1,g2⟩:=I7 hO hn
  have hone:=List.all_eq_true.1 (List.all_eq_true.2 (mD hc ss us' e4 ((fo hks).trans h1))) (a.eval y) (by rw [hus];exact List.mem_singleton.2 rfl)
  rw [f1] at g1 e1
  have g6:=Option.some.inj (Value.slice.inj g1).1
  have g7:b=b0:=by injection g6
  have g8:o=o0:=by injection g6
  subst g7;subst g8
  obtain ⟨⟨u0,g3⟩,g4⟩:=g2 0 (by omega)
  rw [Nat.add_zero] at g3 g4
  have e6:=Option.some.inj (Value.slice.inj e1).1
  have e7:b=b':=by injection e6
  have e8:o=o':=by injection e6
  subst e7;subst e8
  have hrun:(execOp a.eval ⟨none,.store ty' x y,ty,pos,after,g⟩).run P w=.ok .skip (w.setCells b (o+n * 1) us'):=by rw [hus];exact fu hz hone g3 g4 e2 rfl
  unfold Oper.wp
  rw [hrun]
  refine ⟨rfl,_,hc.eatM (cP ss) hi' hkt (Chg.set f2) (fun hag=>⟨f4.mono (fun c h=>h.imp id (hV c)),fun p hp=>(by cases hp),fun p hp=>(by cases hp)⟩)⟩) h hg
theorem IF {s:Sy} {n' e' z' m:Nat} (h:Der P ops W0 N Fin os (us++[((d :: (gk++(kx x++kx y)))++pk,([d])++fk)]) [] [] ((d,.sy (.eo i (q+m * z'))) :: σ)) (hx:ev σ x=some (.eo i q):=by rfl) (hy:ev σ y=some s:=by rfl) (hi:s.int? = some (Int.ofNat m):=by rfl) (ha:arr? P ty'=some (n',e'):=by rfl) (hz:sizeOf? P e'=some z':=by rfl) (hm:Nat.blt m n'=true:=by rfl) (hg:gst ops σ g=some (true,gk):=by rfl) (hN:Nat.blt d N=true:=by rfl) (hs:aF σ d=true:=by rfl):Der P ops W0 N Fin (⟨some d,.indexAddr ty' x y,ty,pos,after,g⟩ :: os) us pk fk σ:=
 cr (.eo i (q+m * z')) (kx x++kx y) (fun σ' c a w hk hc=>by
  obtain ⟨hA,b,o,n1,k1,h1,h2⟩:=ap hc (ah hx (fun κ hκ=>hk κ (by simp [hκ])))
  have h5:=df hi (ap hc (ah hy (fun κ hκ=>hk κ (by simp [hκ]))))
  have hu:P.underlying ty'=some (.array n' e'):=by
   unfold arr? at ha
   split at ha
   ·cases ha;assumption
   ·cases ha
  exact ⟨_,dl (X:=Instr.indexAt ty' (a.eval x) (a.eval y)) (by rw [h2,h5];exact vV hu hz (Nat.blt_eq.mp hm)),hA,b,o,n1,k1,h1,by rw [Nat.add_assoc]⟩) h hg hN hs
theorem BT {o:Nat} {cs:List Sy} (h:Der P ops W0 N Fin os (us++[((d :: (gk++(i :: kx x)))++pk,([d])++fk)]) [] [] ((d,.sy (.ag ((cs.drop o).take z))) :: σ)) (hx:ev σ x=some (.bx i o):=by rfl) (hi:al σ i=some (.tk (.bx cs)):=by rfl) (hA:isAgg? P ty'=some true:=by rfl) (hz:sizeOf? P ty'=some z:=by rfl) (hl:Nat.ble (o+z) cs.length=true:=by rfl) (hg:gst ops σ g=some (true,gk):=by rfl) (hN:Nat.blt d N=true:=by rfl) (hs:aF σ d=true:=by rfl):Der P ops W0 N Fin (⟨some d,.load ty' x,ty,pos,after,g⟩ :: os) us pk fk σ:=
 cr (.ag ((cs.drop o).take z)) (i :: kx x) (fun σ' c a w hk hh=>by
  obtain ⟨hAi,b,h1,h2⟩:=ap hh (ah hx (fun κ hκ=>hk κ (by simp [hκ])))
  obtain ⟨_,⟨b',vs,h3,h4,h5,h6⟩,_⟩:=hh.tok i _ ((hk i (by simp)).trans hi)
  rw [h1] at h3;cases h3
  have hlen:=cM _ _ h5
  have hle:=Nat.le_of_ble_eq_true hl
  have hzl:((vs.drop o).take z).length=z:=by rw [List.length_take,List.length_drop];omega
  have h8:bA w b o ((vs.drop o).take z):=fun j u hj=>by
   rw [List.getElem?_take] at hj
   split at hj
   ·rw [List.getElem?_drop] at hj;exact (h6 (o+j) u hj).1
   ·cases hj
  exact ⟨.agg ((vs.drop o).take z).toArray,dl (X:=Instr.loadAt ty' (a.eval x)) (by rw [h2];exact eL hA (by rw [hz,hzl]) h8),(vs.drop o).take z,rfl,kw z _ _ (kC o _ _ h5)⟩) h hg hN hs
end
end Go.Proofs.YtnobdioccfeokaaGreatDoor
namespace Go.Proofs.YtnobdioccfeokaaGreatDoor
open Go.RowKit
set_option linter.unusedVariables false
set_option maxRecDepth 100000
set_option maxHeartbeats 1000000
attribute [local irreducible] ar Der At
theorem tY (xs:List (List Int)) (hx:wtL List.length xs≤1048576):FnO Tryz.prog 55 [.l 1 (xs.map DI)] [0] [.tk (.own (.l 1 (xs.map DI)) none none)]:=by
 refine cT Tryz.func55 (fun hw W0=>?_)
 have hxl:=gZ List.length xs
 refine kgo ?_
 refine nu (n:=xs.length) (.n 1) ?_ rfl rfl (hb:=by show 24 * xs.length≤1000000000;omega)
 refine kgo ?_
 refine nH (ds:=List.replicate xs.length (.n 1)) 10007 (fun d hd=>by rw [(List.mem_replicate.1 hd).2];exact ⟨rfl,rfl⟩) ?_
 refine ai [0,3,10007] (fun x:Nat × List D=>x.1≤xs.length∧x.2=qS DI (.n 1) x.1 xs) (fun x=>xs.length - x.1) (fun x=>[(4,.sy (.d (.i x.1))),(10007,.tk (.own (.l 1 x.2) none none))]) (0,List.replicate xs.length (.n 1)) ⟨Nat.zero_le _,gd _ _ _⟩ (fun x hx=>?_)
 obtain ⟨i,ds⟩:=x
 obtain ⟨hi,hd⟩:=hx
 dsimp only at hi hd ⊢
 have hdl:=iB hi hd
 refine kgt ?_
 refine aJ (fun h=>?_) (fun h=>?_)
 ·have hlt:i<xs.length:=by omega
  have hlt':i<ds.length:=by omega
  have he:=kb hlt hd
  have f:=kF xs[i] (by have:=rA List.length xs _ (List.getElem_mem hlt);omega)
  refine kgt ?_
  refine C5 ?_
  refine kgt ?_
  exact aa (i+1,ds.set i (DI xs[i])) ⟨hlt,gi hlt hd⟩ (by show _ - (i+1)<_ - i;omega)
 rw [iA (by omega) hd]
 refine kgt ?_
 exact ik (hp:=.cons (.k rfl rfl) .nil)
theorem CD (x:Int × Int):FnD Tryz.prog 103 [cH x] (.d (cH x)):=by
 refine af Tryz.func103 (fun hw W0=>?_)
 refine kgo ?_
 refine ai [1,2,3,10003,10002] (fun j:Nat=>j≤2) (fun j=>2 - j) (fun j=>[(4,.sy (.d (.i j))),(10003,.tk (.bx [.d (.i (if 0<j then x.1 else 0)),.d (.i (if 1<j then x.2 else 0))]))]) 0 (Nat.zero_le _) (fun j hj=>?_)
 have hj2:j=0∨j=1∨j=2:=by omega
 rcases hj2 with rfl|rfl|rfl
 ·refine kgo ?_
  exact aa 1 (by omega) (by show _ - 1<_ - 0;omega)
 ·refine kgo ?_
  exact aa 2 (by omega) (by show _ - 2<_ - 1;omega)
 ·refine kgo ?_
  exact aj
theorem yT (xs:List (Int × Int)) (hx:xs.length≤1048576):FnO Tryz.prog 56 [.l 2 (xs.map cH)] [0] [.tk (.own (.l 2 (xs.map cH)) none none)]:=by
 refine cT Tryz.func56 (fun hw W0=>?_)
 refine kgo ?_
 refine nu (n:=xs.length) (.t [.i 0,.i 0]) ?_ rfl rfl (hb:=by show 16 * xs.length≤1000000000;omega)
 refine kgo ?_
 refine nH (ds:=List.replicate xs.length (.t [.i 0,.i 0])) 10007 (fun d hd=>by rw [(List.mem_replicate.1 hd).2];exact ⟨rfl,rfl⟩) ?_
 refine ai [0,3,10007] (fun x:Nat × List D=>x.1≤xs.length∧x.2=qS cH (.t [.i 0,.i 0]) x.1 xs) (fun x=>xs.length - x.1) (fun x=>[(4,.sy (.d (.i x.1))),(10007,.tk (.own (.l 2 x.2) none none))]) (0,List.replicate xs.length (.t [.i 0,.i 0])) ⟨Nat.zero_le _,gd _ _ _⟩ (fun x hx=>?_)
 obtain ⟨i,ds⟩:=x
 obtain ⟨hi,hd⟩:=hx
 dsimp only at hi hd ⊢
 have hdl:=iB hi hd
 refine kgt ?_
 refine aJ (fun h=>?_) (fun h=>?_)
 ·have hlt:i<xs.length:=by omega
  have hlt':i<ds.length:=by omega
  have he:=kb hlt hd
  have f:=CD xs[i]
  refine kgt ?_
  exact aa (i+1,ds.set i (cH xs[i])) ⟨hlt,gi hlt hd⟩ (by show _ - (i+1)<_ - i;omega)
 rw [iA (by omega) hd]
 refine kgt ?_
 exact ik (hp:=.cons (.k rfl rfl) .nil)
theorem uB (x:Srt) (hx:iI x≤1048576):FnO Tryz.prog 21 [Srt.D x] [5] [.tk (.own (.l 1 (x.tops.map D.i)) none none),.tk (.own (.l 1 (x.nest.map DI)) none none),.tk (.own (.l 1 (x.sorts.map DI)) none none),.tk (.own (.l 1 (x.most.map D.i)) none none),.tk (.own (.l 2 (x.apart.map cH)) none none)]:=by
 have hww:iI x=(x.tops).length+wtL List.length x.nest+wtL List.length x.sorts+(x.most).length+(x.apart).length:=rfl
 have ftops:=kF x.tops (by omega)
 have fnest:=tY x.nest (by omega)
 have fsorts:=tY x.sorts (by omega)
 have fmost:=kF x.most (by omega)
 have fapart:=yT x.apart (by omega)
 refine cT Tryz.func21 (fun hw W0=>?_)
 refine kgt ?_
 exact ik (hp:=.cons (.k rfl rfl) (.cons (.k rfl rfl) (.cons (.k rfl rfl) (.cons (.k rfl rfl) (.cons (.k rfl rfl) (.nil))))))
theorem jh (x:Rnt) (hx:io x≤1048576):FnO Tryz.prog 6 [Rnt.D x] [15] [.tk (.own (.l 3 (x.sig.map Ctl.D)) none none),.tk (.own (.l 1 (x.sort.tops.map D.i)) none none),.tk (.own (.l 1 (x.sort.nest.map DI)) none none),.tk (.own (.l 1 (x.sort.sorts.map DI)) none none),.tk (.own (.l 1 (x.sort.most.map D.i)) none none),.tk (.own (.l 2 (x.sort.apart.map cH)) none none),.tk (.own (.l 13 (x.rules.map Rul.D)) none none),.tk (.own (.l 1 (x.hosts.map D.s)) none none),.d (.i x.agent.roots),.tk (.own (.l 3 (x.agent.nodes.map Nd.D)) none none),.tk (.own (.l 1 (x.agent.sites.map D.i)) none none),.d (.i x.agent.edges),.tk (.own (.l 1 (x.agent.outer.map D.s)) none none),.tk (.own (.l 2 (x.agent.inner.map Wr.D)) none none),.d (.i x.count)]:=by
 have hww:io x=wtL eq x.sig+iI x.sort+wtL dG x.rules+wtL ed x.hosts+dN x.agent:=rfl
 have fsig:=tA x.sig (by omega)
 have fsort:=uB x.sort (by omega)
 have frules:=AZ x.rules (by omega)
 have fhosts:=oU x.hosts (by omega)
 have fagent:=lp x.agent (by omega)
 refine cT Tryz.func6 (fun hw W0=>?_)
 refine kgt ?_
 exact ik (hp:=.cons (.k rfl rfl) (.cons (.k rfl rfl) (.cons (.k rfl rfl) (.cons (.k rfl rfl) (.cons (.k rfl rfl) (.cons (.k rfl rfl) (.cons (.k rfl rfl) (.cons (.k rfl rfl) (.cons (.d rfl) (.cons (.k rfl rfl) (.cons (.k rfl rfl) (.cons (.d rfl) (.cons (.k rfl rfl) (.cons (.k rfl rfl) (.cons (.d rfl) (.nil))))))))))))))))
end Go.Proofs.YtnobdioccfeokaaGreatDoor
namespace Go.Proofs.YtnobdioccfeokaaGreatDoor
open Go.RowKit
set_option linter.unusedVariables false
set_option maxRecDepth 100000
set_option maxHeartbeats 1000000
attribute [local irreducible] ar Der At kO mkL cnL lC
theorem pF (xs:List (List Int)) (k:Int) (h0:0≤k) (h1:k+cnL kJ xs≤1000000000):FnM Tryz.prog 78 (.l 1 (xs.map DI)) (.l 1 ((mkL BJ kJ k xs).map DI)) k (k+cnL kJ xs):=by
 refine nx Tryz.func78 (BY h0 (by omega)) (fun W0 v M hM hw=>?_)
 have hw':xs.length≤9223372036854775807:=by rw [← List.length_map];exact hw
 refine kgm ?_
 refine ai [0,20000] (fun x:Nat × Int × List D=>x.1≤xs.length∧x.2.1=k+cnL kJ (xs.take x.1)∧x.2.2=(lC BJ kJ x.1 k xs).map DI) (fun x=>xs.length - x.1) (fun x=>[(1,.sy (.d (.i x.2.1))),(5,.sy (.d (.i x.1))),(20000,.tk (.own (.l 1 x.2.2) none (some (v,M))))]) (0,k,xs.map DI) ⟨Nat.zero_le _,by simp [cnL],by rw [gq]⟩ (fun x hx=>?_)
 obtain ⟨i,K,ds⟩:=x
 obtain ⟨hi,hK,hd⟩:=hx
 dsimp only at hi hK hd ⊢
 have hl:=sE hd
 have hc:=bq kJ xs i
 refine kgm ?_
 refine aJ (fun h=>?_) (fun h=>?_)
 ·have hlt:i<xs.length:=by omega
  have hlt':i<ds.length:=by omega
  have hct:=gH kJ xs i hlt
  have hc':=bq kJ xs (i+1)
  have hcx:kJ xs[i]=cnL c1 xs[i]:=rfl
  have hKb:K+kJ xs[i]≤1000000000:=by omega
  have hK0:0≤K:=by omega
  have f0:=ef xs[i] (K) (by omega) (by omega)
  refine qw 20000 (congrArg (fun d=>Tk.own (.l 1 d) none (some (v,M))) (sC hlt hd)) ?_
  refine kgm ?_
  refine oW 20000 0 (fun u=>?_)
  refine dq ?_
  refine kgm ?_
  exact aa (i+1,K+(cnL c1 xs[i]:Nat),ds.set i (DI (BJ K xs[i]))) ⟨hlt,by show K+(cnL c1 xs[i]:Nat)=k+(cnL kJ (xs.take (i+1)):Nat);omega,nn hlt hd hK⟩ (by show _ - (i+1)<_ - i;omega)
 have hie:i=xs.length:=by omega
 rw [sx hie hd]
 rw [hie,i7] at hK
 rw [← hK]
 refine kgm ?_
 exact Ft hM
theorem sW (xs:List (Int × Int)) (k:Int) (h0:0≤k) (h1:k+cnL c2 xs≤1000000000):FnM Tryz.prog 79 (.l 2 (xs.map cH)) (.l 2 ((mkL w7 c2 k xs).map cH)) k (k+cnL c2 xs):=by
 refine nx Tryz.func79 (BY h0 (by omega)) (fun W0 v M hM hw=>?_)
 have hw':xs.length≤9223372036854775807:=by rw [← List.length_map];exact hw
 refine kgm ?_
 refine ai [0,20000] (fun x:Nat × Int × List D=>x.1≤xs.length∧x.2.1=k+cnL c2 (xs.take x.1)∧x.2.2=(lC w7 c2 x.1 k xs).map cH) (fun x=>xs.length - x.1) (fun x=>[(1,.sy (.d (.i x.2.1))),(5,.sy (.d (.i x.1))),(20000,.tk (.own (.l 2 x.2.2) none (some (v,M))))]) (0,k,xs.map cH) ⟨Nat.zero_le _,by simp [cnL],by rw [gq]⟩ (fun x hx=>?_)
 obtain ⟨i,K,ds⟩:=x
 obtain ⟨hi,hK,hd⟩:=hx
 dsimp only at hi hK hd ⊢
 have hl:=sE hd
 have hc:=bq c2 xs i
 refine kgm ?_
 refine aJ (fun h=>?_) (fun h=>?_)
 ·have hlt:i<xs.length:=by omega
  have hlt':i<ds.length:=by omega
  have hct:=gH c2 xs i hlt
  have hc':=bq c2 xs (i+1)
  have hcx:c2 xs[i]=2:=rfl
  have hKb:K+2≤1000000000:=by omega
  have hK0:0≤K:=by omega
  refine qw 20000 (congrArg (fun d=>Tk.own (.l 2 d) none (some (v,M))) (sC hlt hd)) ?_
  refine kgm ?_
  refine ai [0,5,20000] (fun j:Nat=>j≤2) (fun j=>2 - j) (fun j=>[(1,.sy (.d (.i (if 1<j then K+1+1 else if 0<j then K+1 else K)))),(6,.sy (.d (.i j))),(20000,.tk (.own (.l 2 (ds.set i (.t [.i (if 0<j then K else (xs[i]).1),.i (if 1<j then K+1 else (xs[i]).2)]))) none (some (v,M))))]) 0 (Nat.zero_le _) (fun j hj=>?_)
  have hj2:j=0∨j=1∨j=2:=by omega
  rcases hj2 with rfl|rfl|rfl
  ·refine kgm ?_
   refine IF ?_
   refine iw (f:=0) ?_
   refine kgm ?_
   exact aa 1 (by omega) (by show _ - 1<_ - 0;omega)
  ·refine kgm ?_
   refine IF ?_
   refine iw (f:=1) ?_
   refine kgm ?_
   exact aa 2 (by omega) (by show _ - 2<_ - 1;omega)
  refine kgm ?_
  exact aa (i+1,K+1+1,ds.set i (cH (w7 K xs[i]))) ⟨hlt,by show K+1+1=k+(cnL c2 (xs.take (i+1)):Nat);omega,nn hlt hd hK⟩ (by show _ - (i+1)<_ - i;omega)
 have hie:i=xs.length:=by omega
 rw [sx hie hd]
 rw [hie,i7] at hK
 rw [← hK]
 refine kgm ?_
 exact Ft hM
abbrev JI (s:Srt):List D:=[DI s.tops,.l 1 (s.nest.map DI),.l 1 (s.sorts.map DI),DI s.most,.l 2 (s.apart.map cH)]
theorem rR (s:Srt) (k:Int) (h0:0≤k) (h1:k+uE s≤1000000000):Ho Tryz.prog 33 (JI s) (JI (Iu k s)) k (k+uE s):=by
 have e:uE s=cnL c1 s.tops+cnL kJ s.nest+cnL kJ s.sorts+cnL c1 s.most+cnL c2 s.apart:=rfl
 have f1:=ef s.tops k h0 (by omega)
 have f2:=pF s.nest (k+(cnL c1 s.tops:Nat)) (by omega) (by omega)
 have f3:=pF s.sorts (k+(cnL c1 s.tops:Nat)+(cnL kJ s.nest:Nat)) (by omega) (by omega)
 have f4:=ef s.most (k+(cnL c1 s.tops:Nat)+(cnL kJ s.nest:Nat)+(cnL kJ s.sorts:Nat)) (by omega) (by omega)
 have f5:=sW s.apart (k+(cnL c1 s.tops:Nat)+(cnL kJ s.nest:Nat)+(cnL kJ s.sorts:Nat)+(cnL c1 s.most:Nat)) (by omega) (by omega)
 rw [show k+(uE s:Int)=k+(cnL c1 s.tops:Nat)+(cnL kJ s.nest:Nat)+(cnL kJ s.sorts:Nat)+(cnL c1 s.most:Nat)+(cnL c2 s.apart:Nat) by omega]
 refine uH Tryz.func33 (BY h0 (by omega)) (fun W0 V T=>?_)
 refine kgl ?_
 exact GX
abbrev FG (r:Rnt):List D:=[.l 3 (r.sig.map Ctl.D),DI r.sort.tops,.l 1 (r.sort.nest.map DI),.l 1 (r.sort.sorts.map DI),DI r.sort.most,.l 2 (r.sort.apart.map cH),.l 13 (r.rules.map Rul.D),.l 1 (r.hosts.map D.s),.i r.agent.roots,.l 3 (r.agent.nodes.map Nd.D),DI r.agent.sites,.i r.agent.edges,.l 1 (r.agent.outer.map D.s),.l 2 (r.agent.inner.map Wr.D),.i r.count]
theorem rt (r:Rnt) (k:Int) (h0:0≤k) (h1:k+Fi r≤1000000000):Ho Tryz.prog 10 (FG r) (FG (Jq k r)) k (k+Fi r):=by
 have e:Fi r=cnL c3 r.sig+uE r.sort+cnL fx r.rules+cnL c1 r.hosts+sb r.agent:=rfl
 have f1:=pX r.sig k h0 (by omega)
 have f2:=rR r.sort (k+(cnL c3 r.sig:Nat)) (by omega) (by omega)
 have f3:=wD r.rules (k+(cnL c3 r.sig:Nat)+(uE r.sort:Nat)) (by omega) (by omega)
 have f4:=gC r.hosts (k+(cnL c3 r.sig:Nat)+(uE r.sort:Nat)+(cnL fx r.rules:Nat)) (by omega) (by omega)
 have f5:=rD r.agent (k+(cnL c3 r.sig:Nat)+(uE r.sort:Nat)+(cnL fx r.rules:Nat)+(cnL c1 r.hosts:Nat)) (by omega) (by omega)
 rw [show k+(Fi r:Int)=k+(cnL c3 r.sig:Nat)+(uE r.sort:Nat)+(cnL fx r.rules:Nat)+(cnL c1 r.hosts:Nat)+(sb r.agent:Nat) by omega]
 refine uH Tryz.func10 (BY h0 (by omega)) (fun W0 V T=>?_)
 refine kgl ?_
 refine BT ?_
 refine kgl ?_
 refine mS ?_
 refine kgl ?_
 refine BT ?_
 refine kgl ?_
 refine mS ?_
 refine kgl ?_
 exact GX
end Go.Proofs.YtnobdioccfeokaaGreatDoor
namespace Go.Proofs.YtnobdioccfeokaaGreatDoor
open Go.RowKit
set_option linter.unusedVariables false
theorem CO:∀xs:List (List Int),cnL kJ xs≤wtL List.length xs:=by
 intro xs
 have h:=BQ kJ List.length 1 (by omega) (fun l=>by show cnL c1 l≤_;rw [mg];omega) xs
 omega
theorem GA (xs:List (Int × Int)):cnL c2 xs=2 * xs.length:=Fu xs
theorem kH (r:Rnt) (h:io r≤1048576):Fi r≤900000000:=by
 have e:io r=wtL eq r.sig+iI r.sort+wtL dG r.rules+wtL ed r.hosts+dN r.agent:=rfl
 have e2:iI r.sort=r.sort.tops.length+wtL List.length r.sort.nest+wtL List.length r.sort.sorts+r.sort.most.length+r.sort.apart.length:=rfl
 have e3:Fi r=cnL c3 r.sig+uE r.sort+cnL fx r.rules+cnL c1 r.hosts+sb r.agent:=rfl
 have e4:uE r.sort=cnL c1 r.sort.tops+cnL kJ r.sort.nest+cnL kJ r.sort.sorts+cnL c1 r.sort.most+cnL c2 r.sort.apart:=rfl
 have h1:=gZ eq r.sig
 have h2:=BQ fx dG 4 (by omega) EB r.rules
 have h3:=vq r.agent
 have h4:=gZ ed r.hosts
 have h5:=CO r.sort.nest
 have h6:=CO r.sort.sorts
 have h7:=GA r.sort.apart
 rw [mg,mg] at e4
 rw [mg,If] at e3
 omega
theorem Bj (sig:List Ctl) (a:Big):∀(rs:List Rul) (out:List Int),(nJ sig a rs out).1.length≤out.length+rs.length:=by
 intro rs
 induction rs with
 | nil=>intro out;exact Nat.le_refl _
 | cons r rs ih=>
  intro out
  unfold nJ
  split
  ·have:=ih (out++[((cX (de sig a [r] 0 [])).1.length:Int)])
   rw [List.length_append] at this
   simp only [List.length_cons,List.length_nil] at this ⊢
   omega
  ·exact Nat.zero_le _
theorem FP (r:Rnt) (h:io r≤1048576):cnL c1 (cQ r).1≤2000000:=by
 have e:io r=wtL eq r.sig+iI r.sort+wtL dG r.rules+wtL ed r.hosts+dN r.agent:=rfl
 have h1:=gZ dG r.rules
 rw [mg]
 unfold cQ
 split
 ·have:=Bj r.sig r.agent r.rules []
  rw [List.length_nil] at this
  omega
 ·exact Nat.zero_le _
theorem wR (e:Nat) (l:List Int) (b:Bool):∀p∈[Pt.tk (.row 1 e (l.map D.i)),.d (.b b)],F3 p:=fun p hp=>by
 simp only [List.mem_cons,List.not_mem_nil,or_false] at hp
 rcases hp with rfl|rfl
 ·exact fun d hd=>by obtain ⟨x,_,rfl⟩:=List.mem_map.1 hd;rfl
 ·rfl
def Jw:List D:=[.i 0,.t [.i 0,.i 0,.i 0,.i 0,.i 0],.i 0,.i 0,.t [.i 0,.i 0,.i 0,.i 0,.i 0,.i 0],.i 0]
set_option maxRecDepth 100000
theorem DZ {w:World} {S:BS} (sh:List D) {ds es:List D} {v:Value} (hn:s5 sh ds=some (es,[])) (h:DV w S (.t ds) v):DV w S (.t es) v:=by
 obtain ⟨cs,h2,h3⟩:=h
 obtain ⟨us,xs,e1,e2,e3⟩:=nW sh ds es [] cs hn h3
 cases (show xs = [] from e3)
 rw [List.append_nil] at e1
 exact ⟨us,by rw [h2,e1],e2⟩
theorem wU {w:World} {S:BS} {r:Rnt} {v:Value} (h:DV w S (.t (FG r)) v):DV w S r.D v:=DZ Jw rfl h
theorem ki (r:Rnt) (hwt:io r≤1048576):FnO Tryz.prog 7 [.t (FG r)] [0,0] [.tk (.row 1 3 ((cQ r).1.map .i)),.d (.b (cQ r).2)]:=
 ⟨(pw r hwt).enter,fun F w vs hv hF=>(pw r hwt).calls F w vs (by obtain ⟨v1,t1,rfl,h1,h3⟩:=hv;exact ⟨v1,_,rfl,wU h1,h3⟩) hF⟩
theorem pM (r:Rnt) (hwt:io r≤1048576):FnD Tryz.prog 5 [.t (FG r)] (.tp [DI (cQ r).1,.b (cQ r).2]):=
 (py r hwt).arg (fun w F vs hv=>by obtain ⟨v1,t1,rfl,h1,h3⟩:=hv;exact ⟨v1,_,rfl,wU h1,h3⟩)
theorem sP (r:Rnt):FnD Tryz.prog 9 [.t (FG r),.t (FG r)] (.d (.b true)):=
 (uO r).arg (fun w F vs hv=>by obtain ⟨v1,t1,rfl,h1,v2,t2,rfl,h2,h3⟩:=hv;exact ⟨v1,_,rfl,wU h1,v2,_,rfl,wU h2,h3⟩)
end Go.Proofs.YtnobdioccfeokaaGreatDoor
