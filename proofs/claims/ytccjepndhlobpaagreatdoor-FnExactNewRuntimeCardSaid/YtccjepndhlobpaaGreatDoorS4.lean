/-
  Walks: marks.
-/
import Derived.Test.YtccjepndhlobpaaGreatDoorT1
import Derived.Test.YtccjepndhlobpaaGreatDoorC1
namespace Go.Proofs.YtccjepndhlobpaaGreatDoor
open Go.RowKit
set_option linter.unusedVariables false
set_option linter.unusedSimpArgs false
attribute [local irreducible] markS cnL mkL

theorem i64_mark {k:Int} (h0:0≤k) (h1:k≤1000000000):I64 k:=by unfold I64;omega

set_option maxRecDepth 100000 in
set_option maxHeartbeats 1600000 in
theorem c_laws_markIntS (lo hi:Nat) (v:Value) (xs:List Int) (k:Int) (w:World) (h:SlO 1 IntP lo hi w v xs) (hk:0≤k) (hk1:k+cnL c1 xs≤1000000000) (hb:hi≤w.heap.size) :
 Calls Tryz.prog 20 #[v,.int .i64 k] w fun e w'=>e=.returned (.int .i64 (k+cnL c1 xs))∧SlO 1 IntP lo hi w' v (mkL mkI c1 k xs)∧Only lo hi w w':=by
 obtain ⟨a,kk,rfl,g1,g2⟩:=h.form
 unfold maxLen at g2
 go_enter Tryz.func20,Tryz.ntmps20
 go_wp2
 go_loopw [1,5] (fun d e wr=>∃(i:Nat) (K:Int),d=.int .i64 K∧e=.int .i64 i∧i≤xs.length∧K=k+cnL c1 (xs.take i)∧SlO 1 IntP lo hi wr (.slice a xs.length kk) (mkTo mkI c1 i k xs)∧Only lo hi w wr) (fun _ e _=>xs.length - (intOf e).toNat)
 case atStart=>exact ⟨0,k,rfl,rfl,Nat.zero_le _,by simp [cnL],by rw [mkTo_zero];exact h,Only.refl _ _ _⟩
 case round=>
  obtain ⟨i,K,rfl,rfl,hi',hK,hS,hO⟩:=hrel
  have hL:=mkTo_len mkI c1 i k xs
  have hle:=cnL_take_le c1 xs i
  by_cases hlt:i<xs.length
  ·have hct:=cnL_take c1 xs i hlt
   have hle2:=cnL_take_le c1 xs (i+1)
   obtain ⟨b,o,k',l,u,cs,hv,q1,q2,b1,b2,b3,hf,l1,u1,hob,hcl,hp,hc,lens⟩:=hS.at IntP.keepsO i (by rw [hL];exact hlt)
   rw [mkTo_at mkI c1 i k xs hlt] at hp
   have hKa:K+(1:Nat)≤1000000000:=by have hcx:c1 xs[i]=1:=rfl;omega
   have hK0:0≤K:=by omega
   have HK:=Lib.hid hK
   have HC:=Lib.hid hct
   rw [hL] at hv
   cases hv
   clear q1 q2 hK hct hL hS hk1 hle hle2 hcl
   obtain ⟨rfl,e1⟩:=hp
   simp only [Nat.mul_one] at hc lens
   have hz:=hO.size
   have T:=Touch.refl b (o+i) 1 l u wr
   have hof:=hob.lt
   have r0:=hc 0 _ rfl
   have f0:=(T.froz (o+i+0)).trans (hf _)
   rw [Nat.add_zero] at r0 f0
   replace T:=T.set (o:=o+i+0) (x:=.int .i64 (K)) (by omega) (by omega)
   replace hc:=hc.set (off:=0) (x:=.int .i64 (K)) (by simp)
   simp only [List.set_cons_zero,List.set_cons_succ] at hc
   go_wp2_with fail
   go_roundw
   case rel=>exact ⟨i+1,_,rfl,rfl,by omega,(by have hK:=HK.out;have hct:=HC.out;have hcx:c1 xs[i]=1:=rfl;omega),by rw [mkTo_succ mkI c1 i k xs hlt,← HK.out];exact lens _ (mkI K xs[i]) [.int .i64 K] T rfl ⟨rfl,i64_mark (k:=K) (by omega) (by omega)⟩ hc,hO.trans (T.toOnly b1 b2 l1 u1)⟩
   all_goals (simp only [intOf];omega)
  ·have e:i=xs.length:=by omega
   subst e
   rw [mkTo_all] at hS
   have he:=cnL_all c1 xs
   go_wp2
   go_ret
   exact ⟨ret_int (by omega),hS,hO⟩
set_option maxRecDepth 100000 in
set_option maxHeartbeats 1600000 in
theorem c_laws_markStringS (lo hi:Nat) (v:Value) (xs:List ByteArray) (k:Int) (w:World) (h:SlO 1 StrP lo hi w v xs) (hk:0≤k) (hk1:k+cnL c1 xs≤1000000000) (hb:hi≤w.heap.size) :
 Calls Tryz.prog 39 #[v,.int .i64 k] w fun e w'=>e=.returned (.int .i64 (k+cnL c1 xs))∧SlO 1 StrP lo hi w' v (mkL mkS c1 k xs)∧Only lo hi w w':=by
 obtain ⟨a,kk,rfl,g1,g2⟩:=h.form
 unfold maxLen at g2
 go_enter Tryz.func39,Tryz.ntmps39
 go_wp2
 go_loopw [1,5] (fun d e wr=>∃(i:Nat) (K:Int),d=.int .i64 K∧e=.int .i64 i∧i≤xs.length∧K=k+cnL c1 (xs.take i)∧SlO 1 StrP lo hi wr (.slice a xs.length kk) (mkTo mkS c1 i k xs)∧Only lo hi w wr) (fun _ e _=>xs.length - (intOf e).toNat)
 case atStart=>exact ⟨0,k,rfl,rfl,Nat.zero_le _,by simp [cnL],by rw [mkTo_zero];exact h,Only.refl _ _ _⟩
 case round=>
  obtain ⟨i,K,rfl,rfl,hi',hK,hS,hO⟩:=hrel
  have hL:=mkTo_len mkS c1 i k xs
  have hle:=cnL_take_le c1 xs i
  by_cases hlt:i<xs.length
  ·have hct:=cnL_take c1 xs i hlt
   have hle2:=cnL_take_le c1 xs (i+1)
   obtain ⟨b,o,k',l,u,cs,hv,q1,q2,b1,b2,b3,hf,l1,u1,hob,hcl,hp,hc,lens⟩:=hS.at StrP.keepsO i (by rw [hL];exact hlt)
   rw [mkTo_at mkS c1 i k xs hlt] at hp
   have hKa:K+(1:Nat)≤1000000000:=by have hcx:c1 xs[i]=1:=rfl;omega
   have hK0:0≤K:=by omega
   have HK:=Lib.hid hK
   have HC:=Lib.hid hct
   rw [hL] at hv
   cases hv
   clear q1 q2 hK hct hL hS hk1 hle hle2 hcl
   obtain ⟨rfl,e1⟩:=hp
   simp only [Nat.mul_one] at hc lens
   have hz:=hO.size
   have T:=Touch.refl b (o+i) 1 l u wr
   have hof:=hob.lt
   have r0:=hc 0 _ rfl
   have f0:=(T.froz (o+i+0)).trans (hf _)
   rw [Nat.add_zero] at r0 f0
   go_wp2_with fail
   refine (c_laws_markText (K) _ (by omega) (by omega)).mono ?_
   rintro e y0 ⟨rfl,hy0⟩
   replace T:=T.ext hy0 b3
   replace hc:=hc.ext hy0
   have hz0:=T.size
   have r0:=hc 0 _ rfl
   have f0:=(T.froz (o+i+0)).trans (hf _)
   rw [Nat.add_zero] at r0 f0
   replace T:=T.set (o:=o+i+0) (x:=.string (markS (K))) (by omega) (by omega)
   replace hc:=hc.set (off:=0) (x:=.string (markS (K))) (by simp)
   simp only [List.set_cons_zero,List.set_cons_succ] at hc
   go_wp2_with fail
   go_roundw
   case rel=>exact ⟨i+1,_,rfl,rfl,by omega,(by have hK:=HK.out;have hct:=HC.out;have hcx:c1 xs[i]=1:=rfl;omega),by rw [mkTo_succ mkS c1 i k xs hlt,← HK.out];exact lens _ (mkS K xs[i]) [.string (markS K)] T rfl ⟨rfl,markS_len K (by omega) (by omega)⟩ hc,hO.trans (T.toOnly b1 b2 l1 u1)⟩
   all_goals (simp only [intOf];omega)
  ·have e:i=xs.length:=by omega
   subst e
   rw [mkTo_all] at hS
   have he:=cnL_all c1 xs
   go_wp2
   go_ret
   exact ⟨ret_int (by omega),hS,hO⟩
set_option maxRecDepth 100000 in
set_option maxHeartbeats 1600000 in
theorem c_laws_markControlS (lo hi:Nat) (v:Value) (xs:List Ctl) (k:Int) (w:World) (h:SlO 3 CtlP lo hi w v xs) (hk:0≤k) (hk1:k+cnL c3 xs≤1000000000) (hb:hi≤w.heap.size) :
 Calls Tryz.prog 36 #[v,.int .i64 k] w fun e w'=>e=.returned (.int .i64 (k+cnL c3 xs))∧SlO 3 CtlP lo hi w' v (mkL mkCtl c3 k xs)∧Only lo hi w w':=by
 obtain ⟨a,kk,rfl,g1,g2⟩:=h.form
 unfold maxLen at g2
 go_enter Tryz.func36,Tryz.ntmps36
 go_wp2
 go_loopw [1,5] (fun d e wr=>∃(i:Nat) (K:Int),d=.int .i64 K∧e=.int .i64 i∧i≤xs.length∧K=k+cnL c3 (xs.take i)∧SlO 3 CtlP lo hi wr (.slice a xs.length kk) (mkTo mkCtl c3 i k xs)∧Only lo hi w wr) (fun _ e _=>xs.length - (intOf e).toNat)
 case atStart=>exact ⟨0,k,rfl,rfl,Nat.zero_le _,by simp [cnL],by rw [mkTo_zero];exact h,Only.refl _ _ _⟩
 case round=>
  obtain ⟨i,K,rfl,rfl,hi',hK,hS,hO⟩:=hrel
  have hL:=mkTo_len mkCtl c3 i k xs
  have hle:=cnL_take_le c3 xs i
  by_cases hlt:i<xs.length
  ·have hct:=cnL_take c3 xs i hlt
   have hle2:=cnL_take_le c3 xs (i+1)
   obtain ⟨b,o,k',l,u,cs,hv,q1,q2,b1,b2,b3,hf,l1,u1,hob,hcl,hp,hc,lens⟩:=hS.at CtlP.keepsO i (by rw [hL];exact hlt)
   rw [mkTo_at mkCtl c3 i k xs hlt] at hp
   have hKa:K+(3:Nat)≤1000000000:=by have hcx:c3 xs[i]=3:=rfl;omega
   have hK0:0≤K:=by omega
   have HK:=Lib.hid hK
   have HC:=Lib.hid hct
   rw [hL] at hv
   cases hv
   clear q1 q2 hK hct hL hS hk1 hle hle2 hcl
   obtain ⟨rfl,e1,e2,e3⟩:=hp
   have hz:=hO.size
   have T:=Touch.refl b (o+i * 3) 3 l u wr
   have hof:=hob.lt
   have r0:=hc 0 _ rfl
   have f0:=(T.froz (o+i * 3+0)).trans (hf _)
   rw [Nat.add_zero] at r0 f0
   have r1:=hc 1 _ rfl
   have f1:=(T.froz (o+i * 3+1)).trans (hf _)
   have r2:=hc 2 _ rfl
   have f2:=(T.froz (o+i * 3+2)).trans (hf _)
   go_wp2_with fail
   refine (c_laws_markText (K) _ (by omega) (by omega)).mono ?_
   rintro e y0 ⟨rfl,hy0⟩
   replace T:=T.ext hy0 b3
   replace hc:=hc.ext hy0
   have hz0:=T.size
   have r0:=hc 0 _ rfl
   have f0:=(T.froz (o+i * 3+0)).trans (hf _)
   rw [Nat.add_zero] at r0 f0
   have r1:=hc 1 _ rfl
   have f1:=(T.froz (o+i * 3+1)).trans (hf _)
   have r2:=hc 2 _ rfl
   have f2:=(T.froz (o+i * 3+2)).trans (hf _)
   replace T:=T.set (o:=o+i * 3+0) (x:=.string (markS (K))) (by omega) (by omega)
   replace hc:=hc.set (off:=0) (x:=.string (markS (K))) (by simp)
   simp only [List.set_cons_zero,List.set_cons_succ] at hc
   replace T:=T.set (o:=o+i * 3+1) (x:=.int .i64 (K+1)) (by omega) (by omega)
   replace hc:=hc.set (off:=1) (x:=.int .i64 (K+1)) (by simp)
   simp only [List.set_cons_zero,List.set_cons_succ] at hc
   replace T:=T.set (o:=o+i * 3+2) (x:=.int .i64 (K+1+1)) (by omega) (by omega)
   replace hc:=hc.set (off:=2) (x:=.int .i64 (K+1+1)) (by simp)
   simp only [List.set_cons_zero,List.set_cons_succ] at hc
   go_wp2_with fail
   go_roundw
   case rel=>exact ⟨i+1,_,rfl,rfl,by omega,(by have hK:=HK.out;have hct:=HC.out;have hcx:c3 xs[i]=3:=rfl;omega),by rw [mkTo_succ mkCtl c3 i k xs hlt,← HK.out];exact lens _ (mkCtl K xs[i]) [.string (markS K),.int .i64 (K+1),.int .i64 (K+1+1)] T rfl ⟨rfl,markS_len K (by omega) (by omega),i64_mark (k:=K+1) (by omega) (by omega),i64_mark (k:=K+1+1) (by omega) (by omega)⟩ hc,hO.trans (T.toOnly b1 b2 l1 u1)⟩
   all_goals (simp only [intOf];omega)
  ·have e:i=xs.length:=by omega
   subst e
   rw [mkTo_all] at hS
   have he:=cnL_all c3 xs
   go_wp2
   go_ret
   exact ⟨ret_int (by omega),hS,hO⟩
set_option maxRecDepth 100000 in
set_option maxHeartbeats 1600000 in
theorem c_laws_markWireS (lo hi:Nat) (v:Value) (xs:List Wr) (k:Int) (w:World) (h:SlO 2 WrP lo hi w v xs) (hk:0≤k) (hk1:k+cnL c2 xs≤1000000000) (hb:hi≤w.heap.size) :
 Calls Tryz.prog 88 #[v,.int .i64 k] w fun e w'=>e=.returned (.int .i64 (k+cnL c2 xs))∧SlO 2 WrP lo hi w' v (mkL mkWr c2 k xs)∧Only lo hi w w':=by
 obtain ⟨a,kk,rfl,g1,g2⟩:=h.form
 unfold maxLen at g2
 go_enter Tryz.func88,Tryz.ntmps88
 go_wp2
 go_loopw [1,5] (fun d e wr=>∃(i:Nat) (K:Int),d=.int .i64 K∧e=.int .i64 i∧i≤xs.length∧K=k+cnL c2 (xs.take i)∧SlO 2 WrP lo hi wr (.slice a xs.length kk) (mkTo mkWr c2 i k xs)∧Only lo hi w wr) (fun _ e _=>xs.length - (intOf e).toNat)
 case atStart=>exact ⟨0,k,rfl,rfl,Nat.zero_le _,by simp [cnL],by rw [mkTo_zero];exact h,Only.refl _ _ _⟩
 case round=>
  obtain ⟨i,K,rfl,rfl,hi',hK,hS,hO⟩:=hrel
  have hL:=mkTo_len mkWr c2 i k xs
  have hle:=cnL_take_le c2 xs i
  by_cases hlt:i<xs.length
  ·have hct:=cnL_take c2 xs i hlt
   have hle2:=cnL_take_le c2 xs (i+1)
   obtain ⟨b,o,k',l,u,cs,hv,q1,q2,b1,b2,b3,hf,l1,u1,hob,hcl,hp,hc,lens⟩:=hS.at WrP.keepsO i (by rw [hL];exact hlt)
   rw [mkTo_at mkWr c2 i k xs hlt] at hp
   have hKa:K+(2:Nat)≤1000000000:=by have hcx:c2 xs[i]=2:=rfl;omega
   have hK0:0≤K:=by omega
   have HK:=Lib.hid hK
   have HC:=Lib.hid hct
   rw [hL] at hv
   cases hv
   clear q1 q2 hK hct hL hS hk1 hle hle2 hcl
   obtain ⟨rfl,e1,e2⟩:=hp
   have hz:=hO.size
   have T:=Touch.refl b (o+i * 2) 2 l u wr
   have hof:=hob.lt
   have r0:=hc 0 _ rfl
   have f0:=(T.froz (o+i * 2+0)).trans (hf _)
   rw [Nat.add_zero] at r0 f0
   have r1:=hc 1 _ rfl
   have f1:=(T.froz (o+i * 2+1)).trans (hf _)
   go_wp2_with fail
   refine (c_laws_markText (K) _ (by omega) (by omega)).mono ?_
   rintro e y0 ⟨rfl,hy0⟩
   replace T:=T.ext hy0 b3
   replace hc:=hc.ext hy0
   have hz0:=T.size
   have r0:=hc 0 _ rfl
   have f0:=(T.froz (o+i * 2+0)).trans (hf _)
   rw [Nat.add_zero] at r0 f0
   have r1:=hc 1 _ rfl
   have f1:=(T.froz (o+i * 2+1)).trans (hf _)
   replace T:=T.set (o:=o+i * 2+0) (x:=.string (markS (K))) (by omega) (by omega)
   replace hc:=hc.set (off:=0) (x:=.string (markS (K))) (by simp)
   simp only [List.set_cons_zero,List.set_cons_succ] at hc
   replace T:=T.set (o:=o+i * 2+1) (x:=.int .i64 (K+1)) (by omega) (by omega)
   replace hc:=hc.set (off:=1) (x:=.int .i64 (K+1)) (by simp)
   simp only [List.set_cons_zero,List.set_cons_succ] at hc
   go_wp2_with fail
   go_roundw
   case rel=>exact ⟨i+1,_,rfl,rfl,by omega,(by have hK:=HK.out;have hct:=HC.out;have hcx:c2 xs[i]=2:=rfl;omega),by rw [mkTo_succ mkWr c2 i k xs hlt,← HK.out];exact lens _ (mkWr K xs[i]) [.string (markS K),.int .i64 (K+1)] T rfl ⟨rfl,markS_len K (by omega) (by omega),i64_mark (k:=K+1) (by omega) (by omega)⟩ hc,hO.trans (T.toOnly b1 b2 l1 u1)⟩
   all_goals (simp only [intOf];omega)
  ·have e:i=xs.length:=by omega
   subst e
   rw [mkTo_all] at hS
   have he:=cnL_all c2 xs
   go_wp2
   go_ret
   exact ⟨ret_int (by omega),hS,hO⟩
set_option maxRecDepth 100000 in
set_option maxHeartbeats 1600000 in
theorem c_laws_markNodeS (lo hi:Nat) (v:Value) (xs:List Nd) (k:Int) (w:World) (h:SlO 3 NdO lo hi w v xs) (hk:0≤k) (hk1:k+cnL cNd xs≤1000000000) (hb:hi≤w.heap.size) :
 Calls Tryz.prog 87 #[v,.int .i64 k] w fun e w'=>e=.returned (.int .i64 (k+cnL cNd xs))∧SlO 3 NdO lo hi w' v (mkL mkNd cNd k xs)∧Only lo hi w w':=by
 obtain ⟨a,kk,rfl,g1,g2⟩:=h.form
 unfold maxLen at g2
 go_enter Tryz.func87,Tryz.ntmps87
 go_wp2
 go_loopw [1,5] (fun d e wr=>∃(i:Nat) (K:Int),d=.int .i64 K∧e=.int .i64 i∧i≤xs.length∧K=k+cnL cNd (xs.take i)∧SlO 3 NdO lo hi wr (.slice a xs.length kk) (mkTo mkNd cNd i k xs)∧Only lo hi w wr) (fun _ e _=>xs.length - (intOf e).toNat)
 case atStart=>exact ⟨0,k,rfl,rfl,Nat.zero_le _,by simp [cnL],by rw [mkTo_zero];exact h,Only.refl _ _ _⟩
 case round=>
  obtain ⟨i,K,rfl,rfl,hi',hK,hS,hO⟩:=hrel
  have hL:=mkTo_len mkNd cNd i k xs
  have hle:=cnL_take_le cNd xs i
  by_cases hlt:i<xs.length
  ·have hct:=cnL_take cNd xs i hlt
   have hle2:=cnL_take_le cNd xs (i+1)
   obtain ⟨b,o,k',l,u,cs,hv,q1,q2,b1,b2,b3,hf,l1,u1,hob,hcl,hp,hc,lens⟩:=hS.at NdO.keepsO i (by rw [hL];exact hlt)
   rw [mkTo_at mkNd cNd i k xs hlt] at hp
   have hKa:K+((2+cnL c1 (xs[i]).links):Nat)≤1000000000:=by have hcx:cNd xs[i]=(2+cnL c1 (xs[i]).links):=rfl;omega
   have hK0:0≤K:=by omega
   have HK:=Lib.hid hK
   have HC:=Lib.hid hct
   rw [hL] at hv
   cases hv
   clear q1 q2 hK hct hL hS hk1 hle hle2 hcl
   obtain ⟨nv,rfl,e1,e2,E0⟩:=hp
   have hz:=hO.size
   have T:=Touch.refl b (o+i * 3) 3 l u wr
   have hof:=hob.lt
   have r0:=hc 0 _ rfl
   have f0:=(T.froz (o+i * 3+0)).trans (hf _)
   rw [Nat.add_zero] at r0 f0
   have r1:=hc 1 _ rfl
   have f1:=(T.froz (o+i * 3+1)).trans (hf _)
   have r2:=hc 2 _ rfl
   have f2:=(T.froz (o+i * 3+2)).trans (hf _)
   replace T:=T.set (o:=o+i * 3+0) (x:=.int .i64 (K)) (by omega) (by omega)
   replace hc:=hc.set (off:=0) (x:=.int .i64 (K)) (by simp)
   simp only [List.set_cons_zero,List.set_cons_succ] at hc
   replace E0:=E0.set IntP.keepsO (b:=b) (o:=o+i * 3+0) (u:=.int .i64 (K)) (hob.lt)
   replace T:=T.set (o:=o+i * 3+1) (x:=.int .i64 (K+1)) (by omega) (by omega)
   replace hc:=hc.set (off:=1) (x:=.int .i64 (K+1)) (by simp)
   simp only [List.set_cons_zero,List.set_cons_succ] at hc
   replace E0:=E0.set IntP.keepsO (b:=b) (o:=o+i * 3+1) (u:=.int .i64 (K+1)) (hob.lt)
   go_wp2_with fail
   have hzs:=T.size
   refine (c_laws_markIntS l u _ _ (K+1+1) _ E0 (by omega) (by omega) (by first|omega|(simp only [World.size_setCell];omega))).mono ?_
   rintro e y0 ⟨rfl,hN,hy0⟩
   clear hzs
   replace T:=T.only (hy0.widen (Nat.le_refl _) (Nat.le_refl _)) b3 hob
   replace hc:=hc.only hy0 hob
   replace E0:=hN
   have hz0:=T.size
   go_wp2_with fail
   go_roundw
   case rel=>exact ⟨i+1,_,rfl,rfl,by omega,(by have hK:=HK.out;have hct:=HC.out;have hcx:cNd xs[i]=(2+cnL c1 (xs[i]).links):=rfl;omega),by rw [mkTo_succ mkNd cNd i k xs hlt,← HK.out];exact lens _ (mkNd K xs[i]) [.int .i64 K,.int .i64 (K+1),nv] T rfl ⟨_,rfl,i64_mark (k:=K) (by omega) (by omega),i64_mark (k:=K+1) (by omega) (by omega),E0⟩ hc,hO.trans (T.toOnly b1 b2 l1 u1)⟩
   all_goals (simp only [intOf];omega)
  ·have e:i=xs.length:=by omega
   subst e
   rw [mkTo_all] at hS
   have he:=cnL_all cNd xs
   go_wp2
   go_ret
   exact ⟨ret_int (by omega),hS,hO⟩
set_option maxRecDepth 100000 in
set_option maxHeartbeats 1600000 in
theorem c_laws_markIntSS (lo hi:Nat) (v:Value) (xs:List (List Int)) (k:Int) (w:World) (h:SlO 1 RowO lo hi w v xs) (hk:0≤k) (hk1:k+cnL cRow xs≤1000000000) (hb:hi≤w.heap.size) :
 Calls Tryz.prog 85 #[v,.int .i64 k] w fun e w'=>e=.returned (.int .i64 (k+cnL cRow xs))∧SlO 1 RowO lo hi w' v (mkL mkRow cRow k xs)∧Only lo hi w w':=by
 obtain ⟨a,kk,rfl,g1,g2⟩:=h.form
 unfold maxLen at g2
 go_enter Tryz.func85,Tryz.ntmps85
 go_wp2
 go_loopw [1,5] (fun d e wr=>∃(i:Nat) (K:Int),d=.int .i64 K∧e=.int .i64 i∧i≤xs.length∧K=k+cnL cRow (xs.take i)∧SlO 1 RowO lo hi wr (.slice a xs.length kk) (mkTo mkRow cRow i k xs)∧Only lo hi w wr) (fun _ e _=>xs.length - (intOf e).toNat)
 case atStart=>exact ⟨0,k,rfl,rfl,Nat.zero_le _,by simp [cnL],by rw [mkTo_zero];exact h,Only.refl _ _ _⟩
 case round=>
  obtain ⟨i,K,rfl,rfl,hi',hK,hS,hO⟩:=hrel
  have hL:=mkTo_len mkRow cRow i k xs
  have hle:=cnL_take_le cRow xs i
  by_cases hlt:i<xs.length
  ·have hct:=cnL_take cRow xs i hlt
   have hle2:=cnL_take_le cRow xs (i+1)
   obtain ⟨b,o,k',l,u,cs,hv,q1,q2,b1,b2,b3,hf,l1,u1,hob,hcl,hp,hc,lens⟩:=hS.at RowO.keepsO i (by rw [hL];exact hlt)
   rw [mkTo_at mkRow cRow i k xs hlt] at hp
   have hKa:K+((cnL c1 xs[i]):Nat)≤1000000000:=by have hcx:cRow xs[i]=(cnL c1 xs[i]):=rfl;omega
   have hK0:0≤K:=by omega
   have HK:=Lib.hid hK
   have HC:=Lib.hid hct
   rw [hL] at hv
   cases hv
   clear q1 q2 hK hct hL hS hk1 hle hle2 hcl
   obtain ⟨rv,rfl,E0⟩:=hp
   simp only [Nat.mul_one] at hc lens
   have hz:=hO.size
   have T:=Touch.refl b (o+i) 1 l u wr
   have hof:=hob.lt
   have r0:=hc 0 _ rfl
   have f0:=(T.froz (o+i+0)).trans (hf _)
   rw [Nat.add_zero] at r0 f0
   go_wp2_with fail
   have hzs:=T.size
   refine (c_laws_markIntS l u _ _ (K) _ E0 (by omega) (by omega) (by first|omega|(simp only [World.size_setCell];omega))).mono ?_
   rintro e y0 ⟨rfl,hN,hy0⟩
   clear hzs
   replace T:=T.only (hy0.widen (Nat.le_refl _) (Nat.le_refl _)) b3 hob
   replace hc:=hc.only hy0 hob
   replace E0:=hN
   have hz0:=T.size
   go_wp2_with fail
   go_roundw
   case rel=>exact ⟨i+1,_,rfl,rfl,by omega,(by have hK:=HK.out;have hct:=HC.out;have hcx:cRow xs[i]=(cnL c1 xs[i]):=rfl;omega),by rw [mkTo_succ mkRow cRow i k xs hlt,← HK.out];exact lens _ (mkRow K xs[i]) [rv] T rfl ⟨_,rfl,E0⟩ hc,hO.trans (T.toOnly b1 b2 l1 u1)⟩
   all_goals (simp only [intOf];omega)
  ·have e:i=xs.length:=by omega
   subst e
   rw [mkTo_all] at hS
   have he:=cnL_all cRow xs
   go_wp2
   go_ret
   exact ⟨ret_int (by omega),hS,hO⟩
set_option maxRecDepth 100000 in
set_option maxHeartbeats 1600000 in
theorem c_laws_markIntA2S (lo hi:Nat) (v:Value) (xs:List (Int × Int)) (k:Int) (w:World) (h:SlO 2 PairP lo hi w v xs) (hk:0≤k) (hk1:k+cnL c2 xs≤1000000000) (hb:hi≤w.heap.size) :
 Calls Tryz.prog 86 #[v,.int .i64 k] w fun e w'=>e=.returned (.int .i64 (k+cnL c2 xs))∧SlO 2 PairP lo hi w' v (mkL mkPair c2 k xs)∧Only lo hi w w':=by
 obtain ⟨a,kk,rfl,g1,g2⟩:=h.form
 unfold maxLen at g2
 go_enter Tryz.func86,Tryz.ntmps86
 go_wp2
 go_loopw [1,5] (fun d e wr=>∃(i:Nat) (K:Int),d=.int .i64 K∧e=.int .i64 i∧i≤xs.length∧K=k+cnL c2 (xs.take i)∧SlO 2 PairP lo hi wr (.slice a xs.length kk) (mkTo mkPair c2 i k xs)∧Only lo hi w wr) (fun _ e _=>xs.length - (intOf e).toNat)
 case atStart=>exact ⟨0,k,rfl,rfl,Nat.zero_le _,by simp [cnL],by rw [mkTo_zero];exact h,Only.refl _ _ _⟩
 case round=>
  obtain ⟨i,K,rfl,rfl,hi',hK,hS,hO⟩:=hrel
  have hL:=mkTo_len mkPair c2 i k xs
  have hle:=cnL_take_le c2 xs i
  by_cases hlt:i<xs.length
  ·have hct:=cnL_take c2 xs i hlt
   have hle2:=cnL_take_le c2 xs (i+1)
   obtain ⟨b,o,k',l,u,cs,hv,q1,q2,b1,b2,b3,hf,l1,u1,hob,hcl,hp,hc,lens⟩:=hS.at PairP.keepsO i (by rw [hL];exact hlt)
   rw [mkTo_at mkPair c2 i k xs hlt] at hp
   have hKa:K+(2:Nat)≤1000000000:=by have hcx:c2 xs[i]=2:=rfl;omega
   have hK0:0≤K:=by omega
   have HK:=Lib.hid hK
   have HC:=Lib.hid hct
   rw [hL] at hv
   cases hv
   clear q1 q2 hK hct hL hS hk1 hle hle2 hcl
   obtain ⟨rfl,e1,e2⟩:=hp
   have hz:=hO.size
   go_wp2_with fail
   go_loopw [1,6] (fun d e wi=>Touch b (o+i * 2) 2 l u wr wi∧((e=.int .i64 0∧d=.int .i64 K∧CellsAt wi b (o+i * 2) [.int .i64 (xs[i]).1,.int .i64 (xs[i]).2])∨(e=.int .i64 1∧d=.int .i64 (K+1)∧CellsAt wi b (o+i * 2) [.int .i64 K,.int .i64 (xs[i]).2])∨(e=.int .i64 2∧d=.int .i64 (K+1+1)∧CellsAt wi b (o+i * 2) [.int .i64 K,.int .i64 (K+1)]))) (fun _ e _=>2 - (intOf e).toNat)
   case atStart=>exact ⟨Touch.refl _ _ _ _ _ _,.inl ⟨rfl,rfl,hc⟩⟩
   case round=>
    obtain ⟨T,⟨rfl,rfl,hc2⟩|⟨rfl,rfl,hc2⟩|⟨rfl,rfl,hc2⟩⟩:=hrel
    ·have r0:=hc2 0 _ rfl
     have f0:=(T.froz (o+i * 2+0)).trans (hf _)
     rw [Nat.add_zero] at r0 f0
     go_wp2_with fail
     go_roundw
     case rel=>exact ⟨T.set (o:=o+i * 2+0) (x:=.int .i64 K) (by omega) (by omega),.inr (.inl ⟨rfl,rfl,hc2.set (off:=0) (x:=.int .i64 K) (by simp)⟩)⟩
     all_goals (simp only [intOf];omega)
    ·have r1:=hc2 1 _ rfl
     have f1:=(T.froz (o+i * 2+1)).trans (hf _)
     go_wp2_with fail
     go_roundw
     case rel=>exact ⟨T.set (o:=o+i * 2+1) (x:=.int .i64 (K+1)) (by omega) (by omega),.inr (.inr ⟨rfl,rfl,hc2.set (off:=1) (x:=.int .i64 (K+1)) (by simp)⟩)⟩
     all_goals (simp only [intOf];omega)
    ·go_wp2_with fail
     go_roundw
     case rel=>exact ⟨i+1,_,rfl,rfl,by omega,(by have hK:=HK.out;have hct:=HC.out;have hcx:c2 xs[i]=2:=rfl;omega),by rw [mkTo_succ mkPair c2 i k xs hlt,← HK.out];exact lens _ (mkPair K xs[i]) [.int .i64 K,.int .i64 (K+1)] T rfl ⟨rfl,i64_mark (k:=K) (by omega) (by omega),i64_mark (k:=K+1) (by omega) (by omega)⟩ hc2,hO.trans (T.toOnly b1 b2 l1 u1)⟩
     all_goals (simp only [intOf];omega)
  ·have e:i=xs.length:=by omega
   subst e
   rw [mkTo_all] at hS
   have he:=cnL_all c2 xs
   go_wp2
   go_ret
   exact ⟨ret_int (by omega),hS,hO⟩
set_option maxRecDepth 100000 in
set_option maxHeartbeats 1600000 in
theorem c_laws_markBigraph (lo hi:Nat) (cs:List Value) (x:Big) (k:Int) (w:World) (h:BigO lo hi w cs x) (hk:0≤k) (hk1:k+cBig x≤1000000000) (hb:hi≤w.heap.size) :
 Calls Tryz.prog 67 #[.agg cs.toArray,.int .i64 k] w fun e w'=>e=.returned (.int .i64 (k+cBig x))∧BigO lo hi w' cs (mkBig k x)∧Only lo hi w w':=by
 obtain ⟨v1,v2,v4,v5,a1,z1,a2,z2,a4,z4,a5,z5,rfl,r1,r2,E1,E2,E4,E5,hp⟩:=h
 have hcx:cBig x=cnL cNd x.nodes+cnL c1 x.sites+cnL c1 x.outer+cnL c2 x.inner:=rfl
 have hkb:k+((cnL cNd x.nodes+cnL c1 x.sites+cnL c1 x.outer+cnL c2 x.inner:Nat):Int)≤1000000000:=by omega
 clear hk1
 have HCX:=Lib.hid hcx
 clear hcx
 have kE1:lo≤a1∧z1≤hi:=hp.le 0 (by simp)
 have kE2:lo≤a2∧z2≤hi:=hp.le 1 (by simp)
 have kE4:lo≤a4∧z4≤hi:=hp.le 2 (by simp)
 have kE5:lo≤a5∧z5≤hi:=hp.le 3 (by simp)
 change Calls Tryz.prog 67 #[.agg #[.int .i64 x.roots,v1,v2,.int .i64 x.edges,v4,v5],.int .i64 k] w _
 obtain ⟨W0,hW0,hbx,hx0,hz⟩:=box_facts w [.int .i64 x.roots,v1,v2,.int .i64 x.edges,v4,v5] 44
 have p0:=(hbx 0 _ rfl).1
 have p1:=(hbx 1 _ rfl).1
 have p2:=(hbx 2 _ rfl).1
 have p3:=(hbx 3 _ rfl).1
 have p4:=(hbx 4 _ rfl).1
 have p5:=(hbx 5 _ rfl).1
 have hzz:w.heap.size<W0.heap.size:=by omega
 clear hz hbx
 have O:Only lo hi w W0:=Only.of_ext hx0
 replace E1:=E1.ext NdO.keepsO hx0
 replace E2:=E2.ext IntP.keepsO hx0
 replace E4:=E4.ext StrP.keepsO hx0
 replace E5:=E5.ext WrP.keepsO hx0
 go_enter Tryz.func67,Tryz.ntmps67
 go_wp2_with fail
 have hzs:=O.size
 refine (c_laws_markNodeS a1 z1 _ _ (k) _ E1 (by omega) (by omega) (by omega)).mono ?_
 rintro e y0 ⟨rfl,hN0,hy0⟩
 clear hzs
 replace p0:=hy0.keep p0 (.inr (by show z1≤w.heap.size;omega))
 replace p1:=hy0.keep p1 (.inr (by show z1≤w.heap.size;omega))
 replace p2:=hy0.keep p2 (.inr (by show z1≤w.heap.size;omega))
 replace p3:=hy0.keep p3 (.inr (by show z1≤w.heap.size;omega))
 replace p4:=hy0.keep p4 (.inr (by show z1≤w.heap.size;omega))
 replace p5:=hy0.keep p5 (.inr (by show z1≤w.heap.size;omega))
 replace E1:=hN0
 replace E2:=E2.only IntP.keepsO hy0 (hp.off 0 1 (by omega) (by simp))
 replace E4:=E4.only StrP.keepsO hy0 (hp.off 0 2 (by omega) (by simp))
 replace E5:=E5.only WrP.keepsO hy0 (hp.off 0 3 (by omega) (by simp))
 replace O:=O.trans (hy0.widen (by omega) (by omega))
 go_wp2_with fail
 have hzs:=O.size
 refine (c_laws_markIntS a2 z2 _ _ (k+((cnL cNd x.nodes:Nat):Int)) _ E2 (by omega) (by omega) (by omega)).mono ?_
 rintro e y1 ⟨rfl,hN1,hy1⟩
 clear hzs
 replace p0:=hy1.keep p0 (.inr (by show z2≤w.heap.size;omega))
 replace p1:=hy1.keep p1 (.inr (by show z2≤w.heap.size;omega))
 replace p2:=hy1.keep p2 (.inr (by show z2≤w.heap.size;omega))
 replace p3:=hy1.keep p3 (.inr (by show z2≤w.heap.size;omega))
 replace p4:=hy1.keep p4 (.inr (by show z2≤w.heap.size;omega))
 replace p5:=hy1.keep p5 (.inr (by show z2≤w.heap.size;omega))
 replace E1:=E1.only NdO.keepsO hy1 ((hp.off 0 1 (by omega) (by simp)).symm)
 replace E2:=hN1
 replace E4:=E4.only StrP.keepsO hy1 (hp.off 1 2 (by omega) (by simp))
 replace E5:=E5.only WrP.keepsO hy1 (hp.off 1 3 (by omega) (by simp))
 replace O:=O.trans (hy1.widen (by omega) (by omega))
 go_wp2_with fail
 have hzs:=O.size
 refine (c_laws_markStringS a4 z4 _ _ (k+((cnL cNd x.nodes:Nat):Int)+((cnL c1 x.sites:Nat):Int)) _ E4 (by omega) (by omega) (by omega)).mono ?_
 rintro e y2 ⟨rfl,hN2,hy2⟩
 clear hzs
 replace p0:=hy2.keep p0 (.inr (by show z4≤w.heap.size;omega))
 replace p1:=hy2.keep p1 (.inr (by show z4≤w.heap.size;omega))
 replace p2:=hy2.keep p2 (.inr (by show z4≤w.heap.size;omega))
 replace p3:=hy2.keep p3 (.inr (by show z4≤w.heap.size;omega))
 replace p4:=hy2.keep p4 (.inr (by show z4≤w.heap.size;omega))
 replace p5:=hy2.keep p5 (.inr (by show z4≤w.heap.size;omega))
 replace E1:=E1.only NdO.keepsO hy2 ((hp.off 0 2 (by omega) (by simp)).symm)
 replace E2:=E2.only IntP.keepsO hy2 ((hp.off 1 2 (by omega) (by simp)).symm)
 replace E4:=hN2
 replace E5:=E5.only WrP.keepsO hy2 (hp.off 2 3 (by omega) (by simp))
 replace O:=O.trans (hy2.widen (by omega) (by omega))
 go_wp2_with fail
 have hzs:=O.size
 refine (c_laws_markWireS a5 z5 _ _ (k+((cnL cNd x.nodes:Nat):Int)+((cnL c1 x.sites:Nat):Int)+((cnL c1 x.outer:Nat):Int)) _ E5 (by omega) (by omega) (by omega)).mono ?_
 rintro e y3 ⟨rfl,hN3,hy3⟩
 clear hzs
 replace p0:=hy3.keep p0 (.inr (by show z5≤w.heap.size;omega))
 replace p1:=hy3.keep p1 (.inr (by show z5≤w.heap.size;omega))
 replace p2:=hy3.keep p2 (.inr (by show z5≤w.heap.size;omega))
 replace p3:=hy3.keep p3 (.inr (by show z5≤w.heap.size;omega))
 replace p4:=hy3.keep p4 (.inr (by show z5≤w.heap.size;omega))
 replace p5:=hy3.keep p5 (.inr (by show z5≤w.heap.size;omega))
 replace E1:=E1.only NdO.keepsO hy3 ((hp.off 0 3 (by omega) (by simp)).symm)
 replace E2:=E2.only IntP.keepsO hy3 ((hp.off 1 3 (by omega) (by simp)).symm)
 replace E4:=E4.only StrP.keepsO hy3 ((hp.off 2 3 (by omega) (by simp)).symm)
 replace E5:=hN3
 replace O:=O.trans (hy3.widen (by omega) (by omega))
 go_wp2
 go_ret
 exact ⟨ret_int (by have hcx:=HCX.out;omega),⟨_,_,_,_,_,_,_,_,_,_,_,_,rfl,r1,r2,E1,E2,E4,E5,hp⟩,O⟩
set_option maxRecDepth 100000 in
set_option maxHeartbeats 1600000 in
theorem c_laws_markSorting (lo hi:Nat) (cs:List Value) (x:Srt) (k:Int) (w:World) (h:SrtO lo hi w cs x) (hk:0≤k) (hk1:k+cSrt x≤1000000000) (hb:hi≤w.heap.size) :
 Calls Tryz.prog 37 #[.agg cs.toArray,.int .i64 k] w fun e w'=>e=.returned (.int .i64 (k+cSrt x))∧SrtO lo hi w' cs (mkSrt k x)∧Only lo hi w w':=by
 obtain ⟨v0,v1,v2,v3,v4,a0,z0,a1,z1,a2,z2,a3,z3,a4,z4,rfl,S0,S1,S2,S3,S4,hp⟩:=h
 have hcx:cSrt x=cnL c1 x.tops+cnL cRow x.nest+cnL cRow x.sorts+cnL c1 x.most+cnL c2 x.apart:=rfl
 have hkb:k+((cnL c1 x.tops+cnL cRow x.nest+cnL cRow x.sorts+cnL c1 x.most+cnL c2 x.apart:Nat):Int)≤1000000000:=by omega
 clear hk1
 have HCX:=Lib.hid hcx
 clear hcx
 have kS0:lo≤a0∧z0≤hi:=hp.le 0 (by simp)
 have kS1:lo≤a1∧z1≤hi:=hp.le 1 (by simp)
 have kS2:lo≤a2∧z2≤hi:=hp.le 2 (by simp)
 have kS3:lo≤a3∧z3≤hi:=hp.le 3 (by simp)
 have kS4:lo≤a4∧z4≤hi:=hp.le 4 (by simp)
 change Calls Tryz.prog 37 #[.agg #[v0,v1,v2,v3,v4],.int .i64 k] w _
 obtain ⟨W0,hW0,hbx,hx0,hz⟩:=box_facts w [v0,v1,v2,v3,v4] 39
 have p0:=(hbx 0 _ rfl).1
 have p1:=(hbx 1 _ rfl).1
 have p2:=(hbx 2 _ rfl).1
 have p3:=(hbx 3 _ rfl).1
 have p4:=(hbx 4 _ rfl).1
 have hzz:w.heap.size<W0.heap.size:=by omega
 clear hz hbx
 have O:Only lo hi w W0:=Only.of_ext hx0
 replace S0:=S0.ext IntP.keepsO hx0
 replace S1:=S1.ext RowO.keepsO hx0
 replace S2:=S2.ext RowO.keepsO hx0
 replace S3:=S3.ext IntP.keepsO hx0
 replace S4:=S4.ext PairP.keepsO hx0
 go_enter Tryz.func37,Tryz.ntmps37
 go_wp2_with fail
 have hzs:=O.size
 refine (c_laws_markIntS a0 z0 _ _ (k) _ S0 (by omega) (by omega) (by omega)).mono ?_
 rintro e y0 ⟨rfl,hN0,hy0⟩
 clear hzs
 replace p0:=hy0.keep p0 (.inr (by show z0≤w.heap.size;omega))
 replace p1:=hy0.keep p1 (.inr (by show z0≤w.heap.size;omega))
 replace p2:=hy0.keep p2 (.inr (by show z0≤w.heap.size;omega))
 replace p3:=hy0.keep p3 (.inr (by show z0≤w.heap.size;omega))
 replace p4:=hy0.keep p4 (.inr (by show z0≤w.heap.size;omega))
 replace S0:=hN0
 replace S1:=S1.only RowO.keepsO hy0 (hp.off 0 1 (by omega) (by simp))
 replace S2:=S2.only RowO.keepsO hy0 (hp.off 0 2 (by omega) (by simp))
 replace S3:=S3.only IntP.keepsO hy0 (hp.off 0 3 (by omega) (by simp))
 replace S4:=S4.only PairP.keepsO hy0 (hp.off 0 4 (by omega) (by simp))
 replace O:=O.trans (hy0.widen (by omega) (by omega))
 go_wp2_with fail
 have hzs:=O.size
 refine (c_laws_markIntSS a1 z1 _ _ (k+((cnL c1 x.tops:Nat):Int)) _ S1 (by omega) (by omega) (by omega)).mono ?_
 rintro e y1 ⟨rfl,hN1,hy1⟩
 clear hzs
 replace p0:=hy1.keep p0 (.inr (by show z1≤w.heap.size;omega))
 replace p1:=hy1.keep p1 (.inr (by show z1≤w.heap.size;omega))
 replace p2:=hy1.keep p2 (.inr (by show z1≤w.heap.size;omega))
 replace p3:=hy1.keep p3 (.inr (by show z1≤w.heap.size;omega))
 replace p4:=hy1.keep p4 (.inr (by show z1≤w.heap.size;omega))
 replace S0:=S0.only IntP.keepsO hy1 ((hp.off 0 1 (by omega) (by simp)).symm)
 replace S1:=hN1
 replace S2:=S2.only RowO.keepsO hy1 (hp.off 1 2 (by omega) (by simp))
 replace S3:=S3.only IntP.keepsO hy1 (hp.off 1 3 (by omega) (by simp))
 replace S4:=S4.only PairP.keepsO hy1 (hp.off 1 4 (by omega) (by simp))
 replace O:=O.trans (hy1.widen (by omega) (by omega))
 go_wp2_with fail
 have hzs:=O.size
 refine (c_laws_markIntSS a2 z2 _ _ (k+((cnL c1 x.tops:Nat):Int)+((cnL cRow x.nest:Nat):Int)) _ S2 (by omega) (by omega) (by omega)).mono ?_
 rintro e y2 ⟨rfl,hN2,hy2⟩
 clear hzs
 replace p0:=hy2.keep p0 (.inr (by show z2≤w.heap.size;omega))
 replace p1:=hy2.keep p1 (.inr (by show z2≤w.heap.size;omega))
 replace p2:=hy2.keep p2 (.inr (by show z2≤w.heap.size;omega))
 replace p3:=hy2.keep p3 (.inr (by show z2≤w.heap.size;omega))
 replace p4:=hy2.keep p4 (.inr (by show z2≤w.heap.size;omega))
 replace S0:=S0.only IntP.keepsO hy2 ((hp.off 0 2 (by omega) (by simp)).symm)
 replace S1:=S1.only RowO.keepsO hy2 ((hp.off 1 2 (by omega) (by simp)).symm)
 replace S2:=hN2
 replace S3:=S3.only IntP.keepsO hy2 (hp.off 2 3 (by omega) (by simp))
 replace S4:=S4.only PairP.keepsO hy2 (hp.off 2 4 (by omega) (by simp))
 replace O:=O.trans (hy2.widen (by omega) (by omega))
 go_wp2_with fail
 have hzs:=O.size
 refine (c_laws_markIntS a3 z3 _ _ (k+((cnL c1 x.tops:Nat):Int)+((cnL cRow x.nest:Nat):Int)+((cnL cRow x.sorts:Nat):Int)) _ S3 (by omega) (by omega) (by omega)).mono ?_
 rintro e y3 ⟨rfl,hN3,hy3⟩
 clear hzs
 replace p0:=hy3.keep p0 (.inr (by show z3≤w.heap.size;omega))
 replace p1:=hy3.keep p1 (.inr (by show z3≤w.heap.size;omega))
 replace p2:=hy3.keep p2 (.inr (by show z3≤w.heap.size;omega))
 replace p3:=hy3.keep p3 (.inr (by show z3≤w.heap.size;omega))
 replace p4:=hy3.keep p4 (.inr (by show z3≤w.heap.size;omega))
 replace S0:=S0.only IntP.keepsO hy3 ((hp.off 0 3 (by omega) (by simp)).symm)
 replace S1:=S1.only RowO.keepsO hy3 ((hp.off 1 3 (by omega) (by simp)).symm)
 replace S2:=S2.only RowO.keepsO hy3 ((hp.off 2 3 (by omega) (by simp)).symm)
 replace S3:=hN3
 replace S4:=S4.only PairP.keepsO hy3 (hp.off 3 4 (by omega) (by simp))
 replace O:=O.trans (hy3.widen (by omega) (by omega))
 go_wp2_with fail
 have hzs:=O.size
 refine (c_laws_markIntA2S a4 z4 _ _ (k+((cnL c1 x.tops:Nat):Int)+((cnL cRow x.nest:Nat):Int)+((cnL cRow x.sorts:Nat):Int)+((cnL c1 x.most:Nat):Int)) _ S4 (by omega) (by omega) (by omega)).mono ?_
 rintro e y4 ⟨rfl,hN4,hy4⟩
 clear hzs
 replace p0:=hy4.keep p0 (.inr (by show z4≤w.heap.size;omega))
 replace p1:=hy4.keep p1 (.inr (by show z4≤w.heap.size;omega))
 replace p2:=hy4.keep p2 (.inr (by show z4≤w.heap.size;omega))
 replace p3:=hy4.keep p3 (.inr (by show z4≤w.heap.size;omega))
 replace p4:=hy4.keep p4 (.inr (by show z4≤w.heap.size;omega))
 replace S0:=S0.only IntP.keepsO hy4 ((hp.off 0 4 (by omega) (by simp)).symm)
 replace S1:=S1.only RowO.keepsO hy4 ((hp.off 1 4 (by omega) (by simp)).symm)
 replace S2:=S2.only RowO.keepsO hy4 ((hp.off 2 4 (by omega) (by simp)).symm)
 replace S3:=S3.only IntP.keepsO hy4 ((hp.off 3 4 (by omega) (by simp)).symm)
 replace S4:=hN4
 replace O:=O.trans (hy4.widen (by omega) (by omega))
 go_wp2
 go_ret
 exact ⟨ret_int (by have hcx:=HCX.out;omega),⟨_,_,_,_,_,_,_,_,_,_,_,_,_,_,_,rfl,S0,S1,S2,S3,S4,hp⟩,O⟩
set_option maxRecDepth 100000 in
set_option maxHeartbeats 1600000 in
theorem c_laws_markRuleS (lo hi:Nat) (v:Value) (xs:List Rul) (k:Int) (w:World) (h:SlO 13 RulO lo hi w v xs) (hk:0≤k) (hk1:k+cnL cRulR xs≤1000000000) (hb:hi≤w.heap.size) :
 Calls Tryz.prog 38 #[v,.int .i64 k] w fun e w'=>e=.returned (.int .i64 (k+cnL cRulR xs))∧SlO 13 RulO lo hi w' v (mkL mkRulR cRulR k xs)∧Only lo hi w w':=by
 obtain ⟨a,kk,rfl,g1,g2⟩:=h.form
 unfold maxLen at g2
 go_enter Tryz.func38,Tryz.ntmps38
 go_wp2
 go_loopw [1,5] (fun d e wr=>∃(i:Nat) (K:Int),d=.int .i64 K∧e=.int .i64 i∧i≤xs.length∧K=k+cnL cRulR (xs.take i)∧SlO 13 RulO lo hi wr (.slice a xs.length kk) (mkTo mkRulR cRulR i k xs)∧Only lo hi w wr) (fun _ e _=>xs.length - (intOf e).toNat)
 case atStart=>exact ⟨0,k,rfl,rfl,Nat.zero_le _,by simp [cnL],by rw [mkTo_zero];exact h,Only.refl _ _ _⟩
 case round=>
  obtain ⟨i,K,rfl,rfl,hi',hK,hS,hO⟩:=hrel
  have hL:=mkTo_len mkRulR cRulR i k xs
  have hle:=cnL_take_le cRulR xs i
  by_cases hlt:i<xs.length
  ·have hct:=cnL_take cRulR xs i hlt
   have hle2:=cnL_take_le cRulR xs (i+1)
   obtain ⟨b,o,k',l,u,cs,hv,q1,q2,b1,b2,b3,hf,l1,u1,hob,hcl,hp,hc,lens⟩:=hS.at RulO.keepsO i (by rw [hL];exact hlt)
   rw [mkTo_at mkRulR cRulR i k xs hlt] at hp
   have hKa:K+(((cnL cNd (xs[i]).redex.nodes+cnL c1 (xs[i]).redex.sites+cnL c1 (xs[i]).redex.outer+cnL c2 (xs[i]).redex.inner+2)+(cnL cNd (xs[i]).reactum.nodes+cnL c1 (xs[i]).reactum.sites+cnL c1 (xs[i]).reactum.outer+cnL c2 (xs[i]).reactum.inner+2)+cnL c1 (xs[i]).copies):Nat)≤1000000000:=by have hcx:cRulR xs[i]=((cnL cNd (xs[i]).redex.nodes+cnL c1 (xs[i]).redex.sites+cnL c1 (xs[i]).redex.outer+cnL c2 (xs[i]).redex.inner+2)+(cnL cNd (xs[i]).reactum.nodes+cnL c1 (xs[i]).reactum.sites+cnL c1 (xs[i]).reactum.outer+cnL c2 (xs[i]).reactum.inner+2)+cnL c1 (xs[i]).copies):=rfl;omega
   have hK0:0≤K:=by omega
   have HK:=Lib.hid hK
   have HC:=Lib.hid hct
   rw [hL] at hv
   cases hv
   clear q1 q2 hK hct hL hS hk1 hle hle2 hcl
   obtain ⟨cs1,cs2,v3,A1,B1,A2,B2,A3,B3,rfl,⟨m1,m2,m4,m5,a1,z1,a2,z2,a4,z4,a5,z5,rfl,r1,r2,N1,S1,O1,I1,P1⟩,⟨n1,n2,n4,n5,aa1,zz1,aa2,zz2,aa4,zz4,aa5,zz5,rfl,s1,s2,N2,S2,O2,I2,P2⟩,C3,P0⟩:=hp
   simp only [List.cons_append,List.nil_append] at hc
   have kA:l≤A1∧B1≤u:=P0.le 0 (by simp)
   have kB:l≤A2∧B2≤u:=P0.le 1 (by simp)
   have k0C3:l≤A3∧B3≤u:=P0.le 2 (by simp)
   have kN1:A1≤a1∧z1≤B1:=P1.le 0 (by simp)
   have k0N1:l≤a1∧z1≤u:=by omega
   have obN1:Off (a1,z1) (b,b+1):=Off.sub hob k0N1.1 k0N1.2 (Nat.le_refl _) (Nat.le_refl _)
   have kS1:A1≤a2∧z2≤B1:=P1.le 1 (by simp)
   have k0S1:l≤a2∧z2≤u:=by omega
   have obS1:Off (a2,z2) (b,b+1):=Off.sub hob k0S1.1 k0S1.2 (Nat.le_refl _) (Nat.le_refl _)
   have kO1:A1≤a4∧z4≤B1:=P1.le 2 (by simp)
   have k0O1:l≤a4∧z4≤u:=by omega
   have obO1:Off (a4,z4) (b,b+1):=Off.sub hob k0O1.1 k0O1.2 (Nat.le_refl _) (Nat.le_refl _)
   have kI1:A1≤a5∧z5≤B1:=P1.le 3 (by simp)
   have k0I1:l≤a5∧z5≤u:=by omega
   have obI1:Off (a5,z5) (b,b+1):=Off.sub hob k0I1.1 k0I1.2 (Nat.le_refl _) (Nat.le_refl _)
   have kN2:A2≤aa1∧zz1≤B2:=P2.le 0 (by simp)
   have k0N2:l≤aa1∧zz1≤u:=by omega
   have obN2:Off (aa1,zz1) (b,b+1):=Off.sub hob k0N2.1 k0N2.2 (Nat.le_refl _) (Nat.le_refl _)
   have kS2:A2≤aa2∧zz2≤B2:=P2.le 1 (by simp)
   have k0S2:l≤aa2∧zz2≤u:=by omega
   have obS2:Off (aa2,zz2) (b,b+1):=Off.sub hob k0S2.1 k0S2.2 (Nat.le_refl _) (Nat.le_refl _)
   have kO2:A2≤aa4∧zz4≤B2:=P2.le 2 (by simp)
   have k0O2:l≤aa4∧zz4≤u:=by omega
   have obO2:Off (aa4,zz4) (b,b+1):=Off.sub hob k0O2.1 k0O2.2 (Nat.le_refl _) (Nat.le_refl _)
   have kI2:A2≤aa5∧zz5≤B2:=P2.le 3 (by simp)
   have k0I2:l≤aa5∧zz5≤u:=by omega
   have obI2:Off (aa5,zz5) (b,b+1):=Off.sub hob k0I2.1 k0I2.2 (Nat.le_refl _) (Nat.le_refl _)
   have obC3:Off (A3,B3) (b,b+1):=Off.sub hob k0C3.1 k0C3.2 (Nat.le_refl _) (Nat.le_refl _)
   have hz:=hO.size
   have T:=Touch.refl b (o+i * 13) 13 l u wr
   have hof:=hob.lt
   have r0:=hc 0 _ rfl
   have f0:=(T.froz (o+i * 13+0)).trans (hf _)
   rw [Nat.add_zero] at r0 f0
   have r1:=hc 1 _ rfl
   have f1:=(T.froz (o+i * 13+1)).trans (hf _)
   replace T:=T.set (o:=o+i * 13+0) (x:=.int .i64 (K)) (by omega) (by omega)
   replace hc:=hc.set (off:=0) (x:=.int .i64 (K)) (by simp)
   simp only [List.set_cons_zero,List.set_cons_succ] at hc
   replace N1:=N1.set NdO.keepsO (b:=b) (o:=o+i * 13+0) (u:=.int .i64 (K)) (obN1.lt)
   replace S1:=S1.set IntP.keepsO (b:=b) (o:=o+i * 13+0) (u:=.int .i64 (K)) (obS1.lt)
   replace O1:=O1.set StrP.keepsO (b:=b) (o:=o+i * 13+0) (u:=.int .i64 (K)) (obO1.lt)
   replace I1:=I1.set WrP.keepsO (b:=b) (o:=o+i * 13+0) (u:=.int .i64 (K)) (obI1.lt)
   replace N2:=N2.set NdO.keepsO (b:=b) (o:=o+i * 13+0) (u:=.int .i64 (K)) (obN2.lt)
   replace S2:=S2.set IntP.keepsO (b:=b) (o:=o+i * 13+0) (u:=.int .i64 (K)) (obS2.lt)
   replace O2:=O2.set StrP.keepsO (b:=b) (o:=o+i * 13+0) (u:=.int .i64 (K)) (obO2.lt)
   replace I2:=I2.set WrP.keepsO (b:=b) (o:=o+i * 13+0) (u:=.int .i64 (K)) (obI2.lt)
   replace C3:=C3.set IntP.keepsO (b:=b) (o:=o+i * 13+0) (u:=.int .i64 (K)) (obC3.lt)
   go_wp2_with fail
   have hzs:=T.size
   refine (c_laws_markNodeS a1 z1 _ _ (K+1) _ N1 (by omega) (by omega) (by first|omega|(simp only [World.size_setCell];omega))).mono ?_
   rintro e y0 ⟨rfl,hN,hy0⟩
   clear hzs
   replace T:=T.only (hy0.widen k0N1.1 k0N1.2) b3 hob
   replace hc:=hc.only hy0 obN1
   replace N1:=hN
   replace S1:=S1.only IntP.keepsO hy0 (P1.off 0 1 (by omega) (by simp))
   replace O1:=O1.only StrP.keepsO hy0 (P1.off 0 2 (by omega) (by simp))
   replace I1:=I1.only WrP.keepsO hy0 (P1.off 0 3 (by omega) (by simp))
   replace N2:=N2.only NdO.keepsO hy0 (Off.sub (P0.off 0 1 (by omega) (by simp)) kN1.1 kN1.2 kN2.1 kN2.2)
   replace S2:=S2.only IntP.keepsO hy0 (Off.sub (P0.off 0 1 (by omega) (by simp)) kN1.1 kN1.2 kS2.1 kS2.2)
   replace O2:=O2.only StrP.keepsO hy0 (Off.sub (P0.off 0 1 (by omega) (by simp)) kN1.1 kN1.2 kO2.1 kO2.2)
   replace I2:=I2.only WrP.keepsO hy0 (Off.sub (P0.off 0 1 (by omega) (by simp)) kN1.1 kN1.2 kI2.1 kI2.2)
   replace C3:=C3.only IntP.keepsO hy0 (Off.sub (P0.off 0 2 (by omega) (by simp)) kN1.1 kN1.2 (Nat.le_refl _) (Nat.le_refl _))
   have hz0:=T.size
   have r2:=hc 2 _ rfl
   have f2:=(T.froz (o+i * 13+2)).trans (hf _)
   go_wp2_with fail
   have hzs:=T.size
   refine (c_laws_markIntS a2 z2 _ _ (K+1+(cnL cNd (xs[i]).redex.nodes:Int)) _ S1 (by omega) (by omega) (by first|omega|(simp only [World.size_setCell];omega))).mono ?_
   rintro e y1 ⟨rfl,hN,hy1⟩
   clear hzs
   replace T:=T.only (hy1.widen k0S1.1 k0S1.2) b3 hob
   replace hc:=hc.only hy1 obS1
   replace N1:=N1.only NdO.keepsO hy1 ((P1.off 0 1 (by omega) (by simp)).symm)
   replace S1:=hN
   replace O1:=O1.only StrP.keepsO hy1 (P1.off 1 2 (by omega) (by simp))
   replace I1:=I1.only WrP.keepsO hy1 (P1.off 1 3 (by omega) (by simp))
   replace N2:=N2.only NdO.keepsO hy1 (Off.sub (P0.off 0 1 (by omega) (by simp)) kS1.1 kS1.2 kN2.1 kN2.2)
   replace S2:=S2.only IntP.keepsO hy1 (Off.sub (P0.off 0 1 (by omega) (by simp)) kS1.1 kS1.2 kS2.1 kS2.2)
   replace O2:=O2.only StrP.keepsO hy1 (Off.sub (P0.off 0 1 (by omega) (by simp)) kS1.1 kS1.2 kO2.1 kO2.2)
   replace I2:=I2.only WrP.keepsO hy1 (Off.sub (P0.off 0 1 (by omega) (by simp)) kS1.1 kS1.2 kI2.1 kI2.2)
   replace C3:=C3.only IntP.keepsO hy1 (Off.sub (P0.off 0 2 (by omega) (by simp)) kS1.1 kS1.2 (Nat.le_refl _) (Nat.le_refl _))
   have hz1:=T.size
   have r3:=hc 3 _ rfl
   have f3:=(T.froz (o+i * 13+3)).trans (hf _)
   have r4:=hc 4 _ rfl
   have f4:=(T.froz (o+i * 13+4)).trans (hf _)
   replace T:=T.set (o:=o+i * 13+3) (x:=.int .i64 (K+1+(cnL cNd (xs[i]).redex.nodes:Int)+(cnL c1 (xs[i]).redex.sites:Int))) (by omega) (by omega)
   replace hc:=hc.set (off:=3) (x:=.int .i64 (K+1+(cnL cNd (xs[i]).redex.nodes:Int)+(cnL c1 (xs[i]).redex.sites:Int))) (by simp)
   simp only [List.set_cons_zero,List.set_cons_succ] at hc
   replace N1:=N1.set NdO.keepsO (b:=b) (o:=o+i * 13+3) (u:=.int .i64 (K+1+(cnL cNd (xs[i]).redex.nodes:Int)+(cnL c1 (xs[i]).redex.sites:Int))) (obN1.lt)
   replace S1:=S1.set IntP.keepsO (b:=b) (o:=o+i * 13+3) (u:=.int .i64 (K+1+(cnL cNd (xs[i]).redex.nodes:Int)+(cnL c1 (xs[i]).redex.sites:Int))) (obS1.lt)
   replace O1:=O1.set StrP.keepsO (b:=b) (o:=o+i * 13+3) (u:=.int .i64 (K+1+(cnL cNd (xs[i]).redex.nodes:Int)+(cnL c1 (xs[i]).redex.sites:Int))) (obO1.lt)
   replace I1:=I1.set WrP.keepsO (b:=b) (o:=o+i * 13+3) (u:=.int .i64 (K+1+(cnL cNd (xs[i]).redex.nodes:Int)+(cnL c1 (xs[i]).redex.sites:Int))) (obI1.lt)
   replace N2:=N2.set NdO.keepsO (b:=b) (o:=o+i * 13+3) (u:=.int .i64 (K+1+(cnL cNd (xs[i]).redex.nodes:Int)+(cnL c1 (xs[i]).redex.sites:Int))) (obN2.lt)
   replace S2:=S2.set IntP.keepsO (b:=b) (o:=o+i * 13+3) (u:=.int .i64 (K+1+(cnL cNd (xs[i]).redex.nodes:Int)+(cnL c1 (xs[i]).redex.sites:Int))) (obS2.lt)
   replace O2:=O2.set StrP.keepsO (b:=b) (o:=o+i * 13+3) (u:=.int .i64 (K+1+(cnL cNd (xs[i]).redex.nodes:Int)+(cnL c1 (xs[i]).redex.sites:Int))) (obO2.lt)
   replace I2:=I2.set WrP.keepsO (b:=b) (o:=o+i * 13+3) (u:=.int .i64 (K+1+(cnL cNd (xs[i]).redex.nodes:Int)+(cnL c1 (xs[i]).redex.sites:Int))) (obI2.lt)
   replace C3:=C3.set IntP.keepsO (b:=b) (o:=o+i * 13+3) (u:=.int .i64 (K+1+(cnL cNd (xs[i]).redex.nodes:Int)+(cnL c1 (xs[i]).redex.sites:Int))) (obC3.lt)
   go_wp2_with fail
   have hzs:=T.size
   refine (c_laws_markStringS a4 z4 _ _ (K+1+(cnL cNd (xs[i]).redex.nodes:Int)+(cnL c1 (xs[i]).redex.sites:Int)+1) _ O1 (by omega) (by omega) (by first|omega|(simp only [World.size_setCell];omega))).mono ?_
   rintro e y2 ⟨rfl,hN,hy2⟩
   clear hzs
   replace T:=T.only (hy2.widen k0O1.1 k0O1.2) b3 hob
   replace hc:=hc.only hy2 obO1
   replace N1:=N1.only NdO.keepsO hy2 ((P1.off 0 2 (by omega) (by simp)).symm)
   replace S1:=S1.only IntP.keepsO hy2 ((P1.off 1 2 (by omega) (by simp)).symm)
   replace O1:=hN
   replace I1:=I1.only WrP.keepsO hy2 (P1.off 2 3 (by omega) (by simp))
   replace N2:=N2.only NdO.keepsO hy2 (Off.sub (P0.off 0 1 (by omega) (by simp)) kO1.1 kO1.2 kN2.1 kN2.2)
   replace S2:=S2.only IntP.keepsO hy2 (Off.sub (P0.off 0 1 (by omega) (by simp)) kO1.1 kO1.2 kS2.1 kS2.2)
   replace O2:=O2.only StrP.keepsO hy2 (Off.sub (P0.off 0 1 (by omega) (by simp)) kO1.1 kO1.2 kO2.1 kO2.2)
   replace I2:=I2.only WrP.keepsO hy2 (Off.sub (P0.off 0 1 (by omega) (by simp)) kO1.1 kO1.2 kI2.1 kI2.2)
   replace C3:=C3.only IntP.keepsO hy2 (Off.sub (P0.off 0 2 (by omega) (by simp)) kO1.1 kO1.2 (Nat.le_refl _) (Nat.le_refl _))
   have hz2:=T.size
   have r5:=hc 5 _ rfl
   have f5:=(T.froz (o+i * 13+5)).trans (hf _)
   go_wp2_with fail
   have hzs:=T.size
   refine (c_laws_markWireS a5 z5 _ _ (K+1+(cnL cNd (xs[i]).redex.nodes:Int)+(cnL c1 (xs[i]).redex.sites:Int)+1+(cnL c1 (xs[i]).redex.outer:Int)) _ I1 (by omega) (by omega) (by first|omega|(simp only [World.size_setCell];omega))).mono ?_
   rintro e y3 ⟨rfl,hN,hy3⟩
   clear hzs
   replace T:=T.only (hy3.widen k0I1.1 k0I1.2) b3 hob
   replace hc:=hc.only hy3 obI1
   replace N1:=N1.only NdO.keepsO hy3 ((P1.off 0 3 (by omega) (by simp)).symm)
   replace S1:=S1.only IntP.keepsO hy3 ((P1.off 1 3 (by omega) (by simp)).symm)
   replace O1:=O1.only StrP.keepsO hy3 ((P1.off 2 3 (by omega) (by simp)).symm)
   replace I1:=hN
   replace N2:=N2.only NdO.keepsO hy3 (Off.sub (P0.off 0 1 (by omega) (by simp)) kI1.1 kI1.2 kN2.1 kN2.2)
   replace S2:=S2.only IntP.keepsO hy3 (Off.sub (P0.off 0 1 (by omega) (by simp)) kI1.1 kI1.2 kS2.1 kS2.2)
   replace O2:=O2.only StrP.keepsO hy3 (Off.sub (P0.off 0 1 (by omega) (by simp)) kI1.1 kI1.2 kO2.1 kO2.2)
   replace I2:=I2.only WrP.keepsO hy3 (Off.sub (P0.off 0 1 (by omega) (by simp)) kI1.1 kI1.2 kI2.1 kI2.2)
   replace C3:=C3.only IntP.keepsO hy3 (Off.sub (P0.off 0 2 (by omega) (by simp)) kI1.1 kI1.2 (Nat.le_refl _) (Nat.le_refl _))
   have hz3:=T.size
   have r6:=hc 6 _ rfl
   have f6:=(T.froz (o+i * 13+6)).trans (hf _)
   have r7:=hc 7 _ rfl
   have f7:=(T.froz (o+i * 13+7)).trans (hf _)
   replace T:=T.set (o:=o+i * 13+6) (x:=.int .i64 (K+1+(cnL cNd (xs[i]).redex.nodes:Int)+(cnL c1 (xs[i]).redex.sites:Int)+1+(cnL c1 (xs[i]).redex.outer:Int)+(cnL c2 (xs[i]).redex.inner:Int))) (by omega) (by omega)
   replace hc:=hc.set (off:=6) (x:=.int .i64 (K+1+(cnL cNd (xs[i]).redex.nodes:Int)+(cnL c1 (xs[i]).redex.sites:Int)+1+(cnL c1 (xs[i]).redex.outer:Int)+(cnL c2 (xs[i]).redex.inner:Int))) (by simp)
   simp only [List.set_cons_zero,List.set_cons_succ] at hc
   replace N1:=N1.set NdO.keepsO (b:=b) (o:=o+i * 13+6) (u:=.int .i64 (K+1+(cnL cNd (xs[i]).redex.nodes:Int)+(cnL c1 (xs[i]).redex.sites:Int)+1+(cnL c1 (xs[i]).redex.outer:Int)+(cnL c2 (xs[i]).redex.inner:Int))) (obN1.lt)
   replace S1:=S1.set IntP.keepsO (b:=b) (o:=o+i * 13+6) (u:=.int .i64 (K+1+(cnL cNd (xs[i]).redex.nodes:Int)+(cnL c1 (xs[i]).redex.sites:Int)+1+(cnL c1 (xs[i]).redex.outer:Int)+(cnL c2 (xs[i]).redex.inner:Int))) (obS1.lt)
   replace O1:=O1.set StrP.keepsO (b:=b) (o:=o+i * 13+6) (u:=.int .i64 (K+1+(cnL cNd (xs[i]).redex.nodes:Int)+(cnL c1 (xs[i]).redex.sites:Int)+1+(cnL c1 (xs[i]).redex.outer:Int)+(cnL c2 (xs[i]).redex.inner:Int))) (obO1.lt)
   replace I1:=I1.set WrP.keepsO (b:=b) (o:=o+i * 13+6) (u:=.int .i64 (K+1+(cnL cNd (xs[i]).redex.nodes:Int)+(cnL c1 (xs[i]).redex.sites:Int)+1+(cnL c1 (xs[i]).redex.outer:Int)+(cnL c2 (xs[i]).redex.inner:Int))) (obI1.lt)
   replace N2:=N2.set NdO.keepsO (b:=b) (o:=o+i * 13+6) (u:=.int .i64 (K+1+(cnL cNd (xs[i]).redex.nodes:Int)+(cnL c1 (xs[i]).redex.sites:Int)+1+(cnL c1 (xs[i]).redex.outer:Int)+(cnL c2 (xs[i]).redex.inner:Int))) (obN2.lt)
   replace S2:=S2.set IntP.keepsO (b:=b) (o:=o+i * 13+6) (u:=.int .i64 (K+1+(cnL cNd (xs[i]).redex.nodes:Int)+(cnL c1 (xs[i]).redex.sites:Int)+1+(cnL c1 (xs[i]).redex.outer:Int)+(cnL c2 (xs[i]).redex.inner:Int))) (obS2.lt)
   replace O2:=O2.set StrP.keepsO (b:=b) (o:=o+i * 13+6) (u:=.int .i64 (K+1+(cnL cNd (xs[i]).redex.nodes:Int)+(cnL c1 (xs[i]).redex.sites:Int)+1+(cnL c1 (xs[i]).redex.outer:Int)+(cnL c2 (xs[i]).redex.inner:Int))) (obO2.lt)
   replace I2:=I2.set WrP.keepsO (b:=b) (o:=o+i * 13+6) (u:=.int .i64 (K+1+(cnL cNd (xs[i]).redex.nodes:Int)+(cnL c1 (xs[i]).redex.sites:Int)+1+(cnL c1 (xs[i]).redex.outer:Int)+(cnL c2 (xs[i]).redex.inner:Int))) (obI2.lt)
   replace C3:=C3.set IntP.keepsO (b:=b) (o:=o+i * 13+6) (u:=.int .i64 (K+1+(cnL cNd (xs[i]).redex.nodes:Int)+(cnL c1 (xs[i]).redex.sites:Int)+1+(cnL c1 (xs[i]).redex.outer:Int)+(cnL c2 (xs[i]).redex.inner:Int))) (obC3.lt)
   go_wp2_with fail
   have hzs:=T.size
   refine (c_laws_markNodeS aa1 zz1 _ _ (K+1+(cnL cNd (xs[i]).redex.nodes:Int)+(cnL c1 (xs[i]).redex.sites:Int)+1+(cnL c1 (xs[i]).redex.outer:Int)+(cnL c2 (xs[i]).redex.inner:Int)+1) _ N2 (by omega) (by omega) (by first|omega|(simp only [World.size_setCell];omega))).mono ?_
   rintro e y4 ⟨rfl,hN,hy4⟩
   clear hzs
   replace T:=T.only (hy4.widen k0N2.1 k0N2.2) b3 hob
   replace hc:=hc.only hy4 obN2
   replace N1:=N1.only NdO.keepsO hy4 (Off.sub ((P0.off 0 1 (by omega) (by simp)).symm) kN2.1 kN2.2 kN1.1 kN1.2)
   replace S1:=S1.only IntP.keepsO hy4 (Off.sub ((P0.off 0 1 (by omega) (by simp)).symm) kN2.1 kN2.2 kS1.1 kS1.2)
   replace O1:=O1.only StrP.keepsO hy4 (Off.sub ((P0.off 0 1 (by omega) (by simp)).symm) kN2.1 kN2.2 kO1.1 kO1.2)
   replace I1:=I1.only WrP.keepsO hy4 (Off.sub ((P0.off 0 1 (by omega) (by simp)).symm) kN2.1 kN2.2 kI1.1 kI1.2)
   replace N2:=hN
   replace S2:=S2.only IntP.keepsO hy4 (P2.off 0 1 (by omega) (by simp))
   replace O2:=O2.only StrP.keepsO hy4 (P2.off 0 2 (by omega) (by simp))
   replace I2:=I2.only WrP.keepsO hy4 (P2.off 0 3 (by omega) (by simp))
   replace C3:=C3.only IntP.keepsO hy4 (Off.sub (P0.off 1 2 (by omega) (by simp)) kN2.1 kN2.2 (Nat.le_refl _) (Nat.le_refl _))
   have hz4:=T.size
   have r8:=hc 8 _ rfl
   have f8:=(T.froz (o+i * 13+8)).trans (hf _)
   go_wp2_with fail
   have hzs:=T.size
   refine (c_laws_markIntS aa2 zz2 _ _ (K+1+(cnL cNd (xs[i]).redex.nodes:Int)+(cnL c1 (xs[i]).redex.sites:Int)+1+(cnL c1 (xs[i]).redex.outer:Int)+(cnL c2 (xs[i]).redex.inner:Int)+1+(cnL cNd (xs[i]).reactum.nodes:Int)) _ S2 (by omega) (by omega) (by first|omega|(simp only [World.size_setCell];omega))).mono ?_
   rintro e y5 ⟨rfl,hN,hy5⟩
   clear hzs
   replace T:=T.only (hy5.widen k0S2.1 k0S2.2) b3 hob
   replace hc:=hc.only hy5 obS2
   replace N1:=N1.only NdO.keepsO hy5 (Off.sub ((P0.off 0 1 (by omega) (by simp)).symm) kS2.1 kS2.2 kN1.1 kN1.2)
   replace S1:=S1.only IntP.keepsO hy5 (Off.sub ((P0.off 0 1 (by omega) (by simp)).symm) kS2.1 kS2.2 kS1.1 kS1.2)
   replace O1:=O1.only StrP.keepsO hy5 (Off.sub ((P0.off 0 1 (by omega) (by simp)).symm) kS2.1 kS2.2 kO1.1 kO1.2)
   replace I1:=I1.only WrP.keepsO hy5 (Off.sub ((P0.off 0 1 (by omega) (by simp)).symm) kS2.1 kS2.2 kI1.1 kI1.2)
   replace N2:=N2.only NdO.keepsO hy5 ((P2.off 0 1 (by omega) (by simp)).symm)
   replace S2:=hN
   replace O2:=O2.only StrP.keepsO hy5 (P2.off 1 2 (by omega) (by simp))
   replace I2:=I2.only WrP.keepsO hy5 (P2.off 1 3 (by omega) (by simp))
   replace C3:=C3.only IntP.keepsO hy5 (Off.sub (P0.off 1 2 (by omega) (by simp)) kS2.1 kS2.2 (Nat.le_refl _) (Nat.le_refl _))
   have hz5:=T.size
   have r9:=hc 9 _ rfl
   have f9:=(T.froz (o+i * 13+9)).trans (hf _)
   have r10:=hc 10 _ rfl
   have f10:=(T.froz (o+i * 13+10)).trans (hf _)
   replace T:=T.set (o:=o+i * 13+9) (x:=.int .i64 (K+1+(cnL cNd (xs[i]).redex.nodes:Int)+(cnL c1 (xs[i]).redex.sites:Int)+1+(cnL c1 (xs[i]).redex.outer:Int)+(cnL c2 (xs[i]).redex.inner:Int)+1+(cnL cNd (xs[i]).reactum.nodes:Int)+(cnL c1 (xs[i]).reactum.sites:Int))) (by omega) (by omega)
   replace hc:=hc.set (off:=9) (x:=.int .i64 (K+1+(cnL cNd (xs[i]).redex.nodes:Int)+(cnL c1 (xs[i]).redex.sites:Int)+1+(cnL c1 (xs[i]).redex.outer:Int)+(cnL c2 (xs[i]).redex.inner:Int)+1+(cnL cNd (xs[i]).reactum.nodes:Int)+(cnL c1 (xs[i]).reactum.sites:Int))) (by simp)
   simp only [List.set_cons_zero,List.set_cons_succ] at hc
   replace N1:=N1.set NdO.keepsO (b:=b) (o:=o+i * 13+9) (u:=.int .i64 (K+1+(cnL cNd (xs[i]).redex.nodes:Int)+(cnL c1 (xs[i]).redex.sites:Int)+1+(cnL c1 (xs[i]).redex.outer:Int)+(cnL c2 (xs[i]).redex.inner:Int)+1+(cnL cNd (xs[i]).reactum.nodes:Int)+(cnL c1 (xs[i]).reactum.sites:Int))) (obN1.lt)
   replace S1:=S1.set IntP.keepsO (b:=b) (o:=o+i * 13+9) (u:=.int .i64 (K+1+(cnL cNd (xs[i]).redex.nodes:Int)+(cnL c1 (xs[i]).redex.sites:Int)+1+(cnL c1 (xs[i]).redex.outer:Int)+(cnL c2 (xs[i]).redex.inner:Int)+1+(cnL cNd (xs[i]).reactum.nodes:Int)+(cnL c1 (xs[i]).reactum.sites:Int))) (obS1.lt)
   replace O1:=O1.set StrP.keepsO (b:=b) (o:=o+i * 13+9) (u:=.int .i64 (K+1+(cnL cNd (xs[i]).redex.nodes:Int)+(cnL c1 (xs[i]).redex.sites:Int)+1+(cnL c1 (xs[i]).redex.outer:Int)+(cnL c2 (xs[i]).redex.inner:Int)+1+(cnL cNd (xs[i]).reactum.nodes:Int)+(cnL c1 (xs[i]).reactum.sites:Int))) (obO1.lt)
   replace I1:=I1.set WrP.keepsO (b:=b) (o:=o+i * 13+9) (u:=.int .i64 (K+1+(cnL cNd (xs[i]).redex.nodes:Int)+(cnL c1 (xs[i]).redex.sites:Int)+1+(cnL c1 (xs[i]).redex.outer:Int)+(cnL c2 (xs[i]).redex.inner:Int)+1+(cnL cNd (xs[i]).reactum.nodes:Int)+(cnL c1 (xs[i]).reactum.sites:Int))) (obI1.lt)
   replace N2:=N2.set NdO.keepsO (b:=b) (o:=o+i * 13+9) (u:=.int .i64 (K+1+(cnL cNd (xs[i]).redex.nodes:Int)+(cnL c1 (xs[i]).redex.sites:Int)+1+(cnL c1 (xs[i]).redex.outer:Int)+(cnL c2 (xs[i]).redex.inner:Int)+1+(cnL cNd (xs[i]).reactum.nodes:Int)+(cnL c1 (xs[i]).reactum.sites:Int))) (obN2.lt)
   replace S2:=S2.set IntP.keepsO (b:=b) (o:=o+i * 13+9) (u:=.int .i64 (K+1+(cnL cNd (xs[i]).redex.nodes:Int)+(cnL c1 (xs[i]).redex.sites:Int)+1+(cnL c1 (xs[i]).redex.outer:Int)+(cnL c2 (xs[i]).redex.inner:Int)+1+(cnL cNd (xs[i]).reactum.nodes:Int)+(cnL c1 (xs[i]).reactum.sites:Int))) (obS2.lt)
   replace O2:=O2.set StrP.keepsO (b:=b) (o:=o+i * 13+9) (u:=.int .i64 (K+1+(cnL cNd (xs[i]).redex.nodes:Int)+(cnL c1 (xs[i]).redex.sites:Int)+1+(cnL c1 (xs[i]).redex.outer:Int)+(cnL c2 (xs[i]).redex.inner:Int)+1+(cnL cNd (xs[i]).reactum.nodes:Int)+(cnL c1 (xs[i]).reactum.sites:Int))) (obO2.lt)
   replace I2:=I2.set WrP.keepsO (b:=b) (o:=o+i * 13+9) (u:=.int .i64 (K+1+(cnL cNd (xs[i]).redex.nodes:Int)+(cnL c1 (xs[i]).redex.sites:Int)+1+(cnL c1 (xs[i]).redex.outer:Int)+(cnL c2 (xs[i]).redex.inner:Int)+1+(cnL cNd (xs[i]).reactum.nodes:Int)+(cnL c1 (xs[i]).reactum.sites:Int))) (obI2.lt)
   replace C3:=C3.set IntP.keepsO (b:=b) (o:=o+i * 13+9) (u:=.int .i64 (K+1+(cnL cNd (xs[i]).redex.nodes:Int)+(cnL c1 (xs[i]).redex.sites:Int)+1+(cnL c1 (xs[i]).redex.outer:Int)+(cnL c2 (xs[i]).redex.inner:Int)+1+(cnL cNd (xs[i]).reactum.nodes:Int)+(cnL c1 (xs[i]).reactum.sites:Int))) (obC3.lt)
   go_wp2_with fail
   have hzs:=T.size
   refine (c_laws_markStringS aa4 zz4 _ _ (K+1+(cnL cNd (xs[i]).redex.nodes:Int)+(cnL c1 (xs[i]).redex.sites:Int)+1+(cnL c1 (xs[i]).redex.outer:Int)+(cnL c2 (xs[i]).redex.inner:Int)+1+(cnL cNd (xs[i]).reactum.nodes:Int)+(cnL c1 (xs[i]).reactum.sites:Int)+1) _ O2 (by omega) (by omega) (by first|omega|(simp only [World.size_setCell];omega))).mono ?_
   rintro e y6 ⟨rfl,hN,hy6⟩
   clear hzs
   replace T:=T.only (hy6.widen k0O2.1 k0O2.2) b3 hob
   replace hc:=hc.only hy6 obO2
   replace N1:=N1.only NdO.keepsO hy6 (Off.sub ((P0.off 0 1 (by omega) (by simp)).symm) kO2.1 kO2.2 kN1.1 kN1.2)
   replace S1:=S1.only IntP.keepsO hy6 (Off.sub ((P0.off 0 1 (by omega) (by simp)).symm) kO2.1 kO2.2 kS1.1 kS1.2)
   replace O1:=O1.only StrP.keepsO hy6 (Off.sub ((P0.off 0 1 (by omega) (by simp)).symm) kO2.1 kO2.2 kO1.1 kO1.2)
   replace I1:=I1.only WrP.keepsO hy6 (Off.sub ((P0.off 0 1 (by omega) (by simp)).symm) kO2.1 kO2.2 kI1.1 kI1.2)
   replace N2:=N2.only NdO.keepsO hy6 ((P2.off 0 2 (by omega) (by simp)).symm)
   replace S2:=S2.only IntP.keepsO hy6 ((P2.off 1 2 (by omega) (by simp)).symm)
   replace O2:=hN
   replace I2:=I2.only WrP.keepsO hy6 (P2.off 2 3 (by omega) (by simp))
   replace C3:=C3.only IntP.keepsO hy6 (Off.sub (P0.off 1 2 (by omega) (by simp)) kO2.1 kO2.2 (Nat.le_refl _) (Nat.le_refl _))
   have hz6:=T.size
   have r11:=hc 11 _ rfl
   have f11:=(T.froz (o+i * 13+11)).trans (hf _)
   go_wp2_with fail
   have hzs:=T.size
   refine (c_laws_markWireS aa5 zz5 _ _ (K+1+(cnL cNd (xs[i]).redex.nodes:Int)+(cnL c1 (xs[i]).redex.sites:Int)+1+(cnL c1 (xs[i]).redex.outer:Int)+(cnL c2 (xs[i]).redex.inner:Int)+1+(cnL cNd (xs[i]).reactum.nodes:Int)+(cnL c1 (xs[i]).reactum.sites:Int)+1+(cnL c1 (xs[i]).reactum.outer:Int)) _ I2 (by omega) (by omega) (by first|omega|(simp only [World.size_setCell];omega))).mono ?_
   rintro e y7 ⟨rfl,hN,hy7⟩
   clear hzs
   replace T:=T.only (hy7.widen k0I2.1 k0I2.2) b3 hob
   replace hc:=hc.only hy7 obI2
   replace N1:=N1.only NdO.keepsO hy7 (Off.sub ((P0.off 0 1 (by omega) (by simp)).symm) kI2.1 kI2.2 kN1.1 kN1.2)
   replace S1:=S1.only IntP.keepsO hy7 (Off.sub ((P0.off 0 1 (by omega) (by simp)).symm) kI2.1 kI2.2 kS1.1 kS1.2)
   replace O1:=O1.only StrP.keepsO hy7 (Off.sub ((P0.off 0 1 (by omega) (by simp)).symm) kI2.1 kI2.2 kO1.1 kO1.2)
   replace I1:=I1.only WrP.keepsO hy7 (Off.sub ((P0.off 0 1 (by omega) (by simp)).symm) kI2.1 kI2.2 kI1.1 kI1.2)
   replace N2:=N2.only NdO.keepsO hy7 ((P2.off 0 3 (by omega) (by simp)).symm)
   replace S2:=S2.only IntP.keepsO hy7 ((P2.off 1 3 (by omega) (by simp)).symm)
   replace O2:=O2.only StrP.keepsO hy7 ((P2.off 2 3 (by omega) (by simp)).symm)
   replace I2:=hN
   replace C3:=C3.only IntP.keepsO hy7 (Off.sub (P0.off 1 2 (by omega) (by simp)) kI2.1 kI2.2 (Nat.le_refl _) (Nat.le_refl _))
   have hz7:=T.size
   have r12:=hc 12 _ rfl
   have f12:=(T.froz (o+i * 13+12)).trans (hf _)
   go_wp2_with fail
   have hzs:=T.size
   refine (c_laws_markIntS A3 B3 _ _ (K+1+(cnL cNd (xs[i]).redex.nodes:Int)+(cnL c1 (xs[i]).redex.sites:Int)+1+(cnL c1 (xs[i]).redex.outer:Int)+(cnL c2 (xs[i]).redex.inner:Int)+1+(cnL cNd (xs[i]).reactum.nodes:Int)+(cnL c1 (xs[i]).reactum.sites:Int)+1+(cnL c1 (xs[i]).reactum.outer:Int)+(cnL c2 (xs[i]).reactum.inner:Int)) _ C3 (by omega) (by omega) (by first|omega|(simp only [World.size_setCell];omega))).mono ?_
   rintro e y8 ⟨rfl,hN,hy8⟩
   clear hzs
   replace T:=T.only (hy8.widen k0C3.1 k0C3.2) b3 hob
   replace hc:=hc.only hy8 obC3
   replace N1:=N1.only NdO.keepsO hy8 (Off.sub ((P0.off 0 2 (by omega) (by simp)).symm) (Nat.le_refl _) (Nat.le_refl _) kN1.1 kN1.2)
   replace S1:=S1.only IntP.keepsO hy8 (Off.sub ((P0.off 0 2 (by omega) (by simp)).symm) (Nat.le_refl _) (Nat.le_refl _) kS1.1 kS1.2)
   replace O1:=O1.only StrP.keepsO hy8 (Off.sub ((P0.off 0 2 (by omega) (by simp)).symm) (Nat.le_refl _) (Nat.le_refl _) kO1.1 kO1.2)
   replace I1:=I1.only WrP.keepsO hy8 (Off.sub ((P0.off 0 2 (by omega) (by simp)).symm) (Nat.le_refl _) (Nat.le_refl _) kI1.1 kI1.2)
   replace N2:=N2.only NdO.keepsO hy8 (Off.sub ((P0.off 1 2 (by omega) (by simp)).symm) (Nat.le_refl _) (Nat.le_refl _) kN2.1 kN2.2)
   replace S2:=S2.only IntP.keepsO hy8 (Off.sub ((P0.off 1 2 (by omega) (by simp)).symm) (Nat.le_refl _) (Nat.le_refl _) kS2.1 kS2.2)
   replace O2:=O2.only StrP.keepsO hy8 (Off.sub ((P0.off 1 2 (by omega) (by simp)).symm) (Nat.le_refl _) (Nat.le_refl _) kO2.1 kO2.2)
   replace I2:=I2.only WrP.keepsO hy8 (Off.sub ((P0.off 1 2 (by omega) (by simp)).symm) (Nat.le_refl _) (Nat.le_refl _) kI2.1 kI2.2)
   replace C3:=hN
   have hz8:=T.size
   go_wp2_with fail
   go_roundw
   case rel=>exact ⟨i+1,_,rfl,rfl,by omega,(by have hK:=HK.out;have hct:=HC.out;have hcx:cRulR xs[i]=((cnL cNd (xs[i]).redex.nodes+cnL c1 (xs[i]).redex.sites+cnL c1 (xs[i]).redex.outer+cnL c2 (xs[i]).redex.inner+2)+(cnL cNd (xs[i]).reactum.nodes+cnL c1 (xs[i]).reactum.sites+cnL c1 (xs[i]).reactum.outer+cnL c2 (xs[i]).reactum.inner+2)+cnL c1 (xs[i]).copies):=rfl;omega),by rw [mkTo_succ mkRulR cRulR i k xs hlt,← HK.out];exact lens _ (mkRulR K xs[i]) [.int .i64 K,m1,m2,.int .i64 (K+1+(cnL cNd (xs[i]).redex.nodes:Int)+(cnL c1 (xs[i]).redex.sites:Int)),m4,m5,.int .i64 (K+1+(cnL cNd (xs[i]).redex.nodes:Int)+(cnL c1 (xs[i]).redex.sites:Int)+1+(cnL c1 (xs[i]).redex.outer:Int)+(cnL c2 (xs[i]).redex.inner:Int)),n1,n2,.int .i64 (K+1+(cnL cNd (xs[i]).redex.nodes:Int)+(cnL c1 (xs[i]).redex.sites:Int)+1+(cnL c1 (xs[i]).redex.outer:Int)+(cnL c2 (xs[i]).redex.inner:Int)+1+(cnL cNd (xs[i]).reactum.nodes:Int)+(cnL c1 (xs[i]).reactum.sites:Int)),n4,n5,v3] T rfl ⟨[.int .i64 K,m1,m2,.int .i64 (K+1+(cnL cNd (xs[i]).redex.nodes:Int)+(cnL c1 (xs[i]).redex.sites:Int)),m4,m5],[.int .i64 (K+1+(cnL cNd (xs[i]).redex.nodes:Int)+(cnL c1 (xs[i]).redex.sites:Int)+1+(cnL c1 (xs[i]).redex.outer:Int)+(cnL c2 (xs[i]).redex.inner:Int)),n1,n2,.int .i64 (K+1+(cnL cNd (xs[i]).redex.nodes:Int)+(cnL c1 (xs[i]).redex.sites:Int)+1+(cnL c1 (xs[i]).redex.outer:Int)+(cnL c2 (xs[i]).redex.inner:Int)+1+(cnL cNd (xs[i]).reactum.nodes:Int)+(cnL c1 (xs[i]).reactum.sites:Int)),n4,n5],v3,A1,B1,A2,B2,A3,B3,rfl,⟨_,_,_,_,a1,z1,a2,z2,a4,z4,a5,z5,rfl,i64_mark (k:=K) (by omega) (by omega),i64_mark (k:=K+1+(cnL cNd (xs[i]).redex.nodes:Int)+(cnL c1 (xs[i]).redex.sites:Int)) (by omega) (by omega),N1,S1,O1,I1,P1⟩,⟨_,_,_,_,aa1,zz1,aa2,zz2,aa4,zz4,aa5,zz5,rfl,i64_mark (k:=K+1+(cnL cNd (xs[i]).redex.nodes:Int)+(cnL c1 (xs[i]).redex.sites:Int)+1+(cnL c1 (xs[i]).redex.outer:Int)+(cnL c2 (xs[i]).redex.inner:Int)) (by omega) (by omega),i64_mark (k:=K+1+(cnL cNd (xs[i]).redex.nodes:Int)+(cnL c1 (xs[i]).redex.sites:Int)+1+(cnL c1 (xs[i]).redex.outer:Int)+(cnL c2 (xs[i]).redex.inner:Int)+1+(cnL cNd (xs[i]).reactum.nodes:Int)+(cnL c1 (xs[i]).reactum.sites:Int)) (by omega) (by omega),N2,S2,O2,I2,P2⟩,C3,P0⟩ hc,hO.trans (T.toOnly b1 b2 l1 u1)⟩
   all_goals (simp only [intOf];omega)
  ·have e:i=xs.length:=by omega
   subst e
   rw [mkTo_all] at hS
   have he:=cnL_all cRulR xs
   go_wp2
   go_ret
   exact ⟨ret_int (by omega),hS,hO⟩
set_option maxRecDepth 100000 in
set_option maxHeartbeats 1600000 in
theorem c_laws_markRuntime (lo hi:Nat) (cs:List Value) (x:Rnt) (k:Int) (w:World) (h:RntO lo hi w cs x) (hk:0≤k) (hk1:k+cRnt x≤1000000000) (hb:hi≤w.heap.size) :
 Calls Tryz.prog 19 #[.agg cs.toArray,.int .i64 k] w fun e w'=>e=.returned (.int .i64 (k+cRnt x))∧RntO lo hi w' cs (mkRnt k x)∧Only lo hi w w':=by
 obtain ⟨v0,cs1,v6,v7,cs8,a0,z0,a1,z1,a6,z6,a7,z7,a8,z8,rfl,E0,E1,E6,E7,E8,ec,hp⟩:=h
 have hcx:cRnt x=cnL c3 x.sig+cSrt x.sort+cnL cRulR x.rules+cnL c1 x.hosts+cBig x.agent:=rfl
 have hkb:k+((cnL c3 x.sig+cSrt x.sort+cnL cRulR x.rules+cnL c1 x.hosts+cBig x.agent:Nat):Int)≤1000000000:=by omega
 clear hk1
 have HCX:=Lib.hid hcx
 clear hcx
 obtain ⟨s0,s1,s2,s3,s4,_,_,_,_,_,_,_,_,_,_,rfl,_⟩:=id E1
 obtain ⟨yy1,yy2,yy4,yy5,_,_,_,_,_,_,_,_,rfl,_⟩:=id E8
 have kE0:lo≤a0∧z0≤hi:=hp.le 0 (by simp)
 have kE1:lo≤a1∧z1≤hi:=hp.le 1 (by simp)
 have kE6:lo≤a6∧z6≤hi:=hp.le 2 (by simp)
 have kE7:lo≤a7∧z7≤hi:=hp.le 3 (by simp)
 have kE8:lo≤a8∧z8≤hi:=hp.le 4 (by simp)
 change Calls Tryz.prog 19 #[.agg #[v0,s0,s1,s2,s3,s4,v6,v7,.int .i64 x.agent.roots,yy1,yy2,.int .i64 x.agent.edges,yy4,yy5,.int .i64 x.count],.int .i64 k] w _
 obtain ⟨W0,hW0,hbx,hx0,hz⟩:=box_facts w [v0,s0,s1,s2,s3,s4,v6,v7,.int .i64 x.agent.roots,yy1,yy2,.int .i64 x.agent.edges,yy4,yy5,.int .i64 x.count] 46
 have p0:=(hbx 0 _ rfl).1
 have p1:=(hbx 1 _ rfl).1
 have p2:=(hbx 2 _ rfl).1
 have p3:=(hbx 3 _ rfl).1
 have p4:=(hbx 4 _ rfl).1
 have p5:=(hbx 5 _ rfl).1
 have p6:=(hbx 6 _ rfl).1
 have p7:=(hbx 7 _ rfl).1
 have p8:=(hbx 8 _ rfl).1
 have p9:=(hbx 9 _ rfl).1
 have p10:=(hbx 10 _ rfl).1
 have p11:=(hbx 11 _ rfl).1
 have p12:=(hbx 12 _ rfl).1
 have p13:=(hbx 13 _ rfl).1
 have p14:=(hbx 14 _ rfl).1
 have hzz:w.heap.size<W0.heap.size:=by omega
 clear hz hbx
 have O:Only lo hi w W0:=Only.of_ext hx0
 replace E0:=E0.ext CtlP.keepsO hx0
 replace E1:=SrtO.keepsO.ext E1 hx0
 replace E6:=E6.ext RulO.keepsO hx0
 replace E7:=E7.ext StrP.keepsO hx0
 replace E8:=BigO.keepsO.ext E8 hx0
 go_enter Tryz.func19,Tryz.ntmps19
 go_wp2_with fail
 have hzs:=O.size
 refine (c_laws_markControlS a0 z0 _ _ (k) _ E0 (by omega) (by omega) (by omega)).mono ?_
 rintro e y0 ⟨rfl,hN0,hy0⟩
 clear hzs
 replace p0:=hy0.keep p0 (.inr (by show z0≤w.heap.size;omega))
 replace p1:=hy0.keep p1 (.inr (by show z0≤w.heap.size;omega))
 replace p2:=hy0.keep p2 (.inr (by show z0≤w.heap.size;omega))
 replace p3:=hy0.keep p3 (.inr (by show z0≤w.heap.size;omega))
 replace p4:=hy0.keep p4 (.inr (by show z0≤w.heap.size;omega))
 replace p5:=hy0.keep p5 (.inr (by show z0≤w.heap.size;omega))
 replace p6:=hy0.keep p6 (.inr (by show z0≤w.heap.size;omega))
 replace p7:=hy0.keep p7 (.inr (by show z0≤w.heap.size;omega))
 replace p8:=hy0.keep p8 (.inr (by show z0≤w.heap.size;omega))
 replace p9:=hy0.keep p9 (.inr (by show z0≤w.heap.size;omega))
 replace p10:=hy0.keep p10 (.inr (by show z0≤w.heap.size;omega))
 replace p11:=hy0.keep p11 (.inr (by show z0≤w.heap.size;omega))
 replace p12:=hy0.keep p12 (.inr (by show z0≤w.heap.size;omega))
 replace p13:=hy0.keep p13 (.inr (by show z0≤w.heap.size;omega))
 replace p14:=hy0.keep p14 (.inr (by show z0≤w.heap.size;omega))
 replace E0:=hN0
 replace E1:=SrtO.keepsO.only E1 hy0 (hp.off 0 1 (by omega) (by simp))
 replace E6:=E6.only RulO.keepsO hy0 (hp.off 0 2 (by omega) (by simp))
 replace E7:=E7.only StrP.keepsO hy0 (hp.off 0 3 (by omega) (by simp))
 replace E8:=BigO.keepsO.only E8 hy0 (hp.off 0 4 (by omega) (by simp))
 replace O:=O.trans (hy0.widen (by omega) (by omega))
 go_wp2_with fail
 have hzs:=O.size
 refine (c_laws_markSorting a1 z1 [s0,s1,s2,s3,s4] _ (k+((cnL c3 x.sig:Nat):Int)) _ E1 (by omega) (by omega) (by omega)).mono ?_
 rintro e y1 ⟨rfl,hN1,hy1⟩
 clear hzs
 replace p0:=hy1.keep p0 (.inr (by show z1≤w.heap.size;omega))
 replace p1:=hy1.keep p1 (.inr (by show z1≤w.heap.size;omega))
 replace p2:=hy1.keep p2 (.inr (by show z1≤w.heap.size;omega))
 replace p3:=hy1.keep p3 (.inr (by show z1≤w.heap.size;omega))
 replace p4:=hy1.keep p4 (.inr (by show z1≤w.heap.size;omega))
 replace p5:=hy1.keep p5 (.inr (by show z1≤w.heap.size;omega))
 replace p6:=hy1.keep p6 (.inr (by show z1≤w.heap.size;omega))
 replace p7:=hy1.keep p7 (.inr (by show z1≤w.heap.size;omega))
 replace p8:=hy1.keep p8 (.inr (by show z1≤w.heap.size;omega))
 replace p9:=hy1.keep p9 (.inr (by show z1≤w.heap.size;omega))
 replace p10:=hy1.keep p10 (.inr (by show z1≤w.heap.size;omega))
 replace p11:=hy1.keep p11 (.inr (by show z1≤w.heap.size;omega))
 replace p12:=hy1.keep p12 (.inr (by show z1≤w.heap.size;omega))
 replace p13:=hy1.keep p13 (.inr (by show z1≤w.heap.size;omega))
 replace p14:=hy1.keep p14 (.inr (by show z1≤w.heap.size;omega))
 replace E0:=E0.only CtlP.keepsO hy1 ((hp.off 0 1 (by omega) (by simp)).symm)
 replace E1:=hN1
 replace E6:=E6.only RulO.keepsO hy1 (hp.off 1 2 (by omega) (by simp))
 replace E7:=E7.only StrP.keepsO hy1 (hp.off 1 3 (by omega) (by simp))
 replace E8:=BigO.keepsO.only E8 hy1 (hp.off 1 4 (by omega) (by simp))
 replace O:=O.trans (hy1.widen (by omega) (by omega))
 go_wp2_with fail
 have hzs:=O.size
 refine (c_laws_markRuleS a6 z6 _ _ (k+((cnL c3 x.sig:Nat):Int)+((cSrt x.sort:Nat):Int)) _ E6 (by omega) (by omega) (by omega)).mono ?_
 rintro e y2 ⟨rfl,hN2,hy2⟩
 clear hzs
 replace p0:=hy2.keep p0 (.inr (by show z6≤w.heap.size;omega))
 replace p1:=hy2.keep p1 (.inr (by show z6≤w.heap.size;omega))
 replace p2:=hy2.keep p2 (.inr (by show z6≤w.heap.size;omega))
 replace p3:=hy2.keep p3 (.inr (by show z6≤w.heap.size;omega))
 replace p4:=hy2.keep p4 (.inr (by show z6≤w.heap.size;omega))
 replace p5:=hy2.keep p5 (.inr (by show z6≤w.heap.size;omega))
 replace p6:=hy2.keep p6 (.inr (by show z6≤w.heap.size;omega))
 replace p7:=hy2.keep p7 (.inr (by show z6≤w.heap.size;omega))
 replace p8:=hy2.keep p8 (.inr (by show z6≤w.heap.size;omega))
 replace p9:=hy2.keep p9 (.inr (by show z6≤w.heap.size;omega))
 replace p10:=hy2.keep p10 (.inr (by show z6≤w.heap.size;omega))
 replace p11:=hy2.keep p11 (.inr (by show z6≤w.heap.size;omega))
 replace p12:=hy2.keep p12 (.inr (by show z6≤w.heap.size;omega))
 replace p13:=hy2.keep p13 (.inr (by show z6≤w.heap.size;omega))
 replace p14:=hy2.keep p14 (.inr (by show z6≤w.heap.size;omega))
 replace E0:=E0.only CtlP.keepsO hy2 ((hp.off 0 2 (by omega) (by simp)).symm)
 replace E1:=SrtO.keepsO.only E1 hy2 ((hp.off 1 2 (by omega) (by simp)).symm)
 replace E6:=hN2
 replace E7:=E7.only StrP.keepsO hy2 (hp.off 2 3 (by omega) (by simp))
 replace E8:=BigO.keepsO.only E8 hy2 (hp.off 2 4 (by omega) (by simp))
 replace O:=O.trans (hy2.widen (by omega) (by omega))
 go_wp2_with fail
 have hzs:=O.size
 refine (c_laws_markStringS a7 z7 _ _ (k+((cnL c3 x.sig:Nat):Int)+((cSrt x.sort:Nat):Int)+((cnL cRulR x.rules:Nat):Int)) _ E7 (by omega) (by omega) (by omega)).mono ?_
 rintro e y3 ⟨rfl,hN3,hy3⟩
 clear hzs
 replace p0:=hy3.keep p0 (.inr (by show z7≤w.heap.size;omega))
 replace p1:=hy3.keep p1 (.inr (by show z7≤w.heap.size;omega))
 replace p2:=hy3.keep p2 (.inr (by show z7≤w.heap.size;omega))
 replace p3:=hy3.keep p3 (.inr (by show z7≤w.heap.size;omega))
 replace p4:=hy3.keep p4 (.inr (by show z7≤w.heap.size;omega))
 replace p5:=hy3.keep p5 (.inr (by show z7≤w.heap.size;omega))
 replace p6:=hy3.keep p6 (.inr (by show z7≤w.heap.size;omega))
 replace p7:=hy3.keep p7 (.inr (by show z7≤w.heap.size;omega))
 replace p8:=hy3.keep p8 (.inr (by show z7≤w.heap.size;omega))
 replace p9:=hy3.keep p9 (.inr (by show z7≤w.heap.size;omega))
 replace p10:=hy3.keep p10 (.inr (by show z7≤w.heap.size;omega))
 replace p11:=hy3.keep p11 (.inr (by show z7≤w.heap.size;omega))
 replace p12:=hy3.keep p12 (.inr (by show z7≤w.heap.size;omega))
 replace p13:=hy3.keep p13 (.inr (by show z7≤w.heap.size;omega))
 replace p14:=hy3.keep p14 (.inr (by show z7≤w.heap.size;omega))
 replace E0:=E0.only CtlP.keepsO hy3 ((hp.off 0 3 (by omega) (by simp)).symm)
 replace E1:=SrtO.keepsO.only E1 hy3 ((hp.off 1 3 (by omega) (by simp)).symm)
 replace E6:=E6.only RulO.keepsO hy3 ((hp.off 2 3 (by omega) (by simp)).symm)
 replace E7:=hN3
 replace E8:=BigO.keepsO.only E8 hy3 (hp.off 3 4 (by omega) (by simp))
 replace O:=O.trans (hy3.widen (by omega) (by omega))
 go_wp2_with fail
 have hzs:=O.size
 refine (c_laws_markBigraph a8 z8 [.int .i64 x.agent.roots,yy1,yy2,.int .i64 x.agent.edges,yy4,yy5] _ (k+((cnL c3 x.sig:Nat):Int)+((cSrt x.sort:Nat):Int)+((cnL cRulR x.rules:Nat):Int)+((cnL c1 x.hosts:Nat):Int)) _ E8 (by omega) (by omega) (by omega)).mono ?_
 rintro e y4 ⟨rfl,hN4,hy4⟩
 clear hzs
 replace p0:=hy4.keep p0 (.inr (by show z8≤w.heap.size;omega))
 replace p1:=hy4.keep p1 (.inr (by show z8≤w.heap.size;omega))
 replace p2:=hy4.keep p2 (.inr (by show z8≤w.heap.size;omega))
 replace p3:=hy4.keep p3 (.inr (by show z8≤w.heap.size;omega))
 replace p4:=hy4.keep p4 (.inr (by show z8≤w.heap.size;omega))
 replace p5:=hy4.keep p5 (.inr (by show z8≤w.heap.size;omega))
 replace p6:=hy4.keep p6 (.inr (by show z8≤w.heap.size;omega))
 replace p7:=hy4.keep p7 (.inr (by show z8≤w.heap.size;omega))
 replace p8:=hy4.keep p8 (.inr (by show z8≤w.heap.size;omega))
 replace p9:=hy4.keep p9 (.inr (by show z8≤w.heap.size;omega))
 replace p10:=hy4.keep p10 (.inr (by show z8≤w.heap.size;omega))
 replace p11:=hy4.keep p11 (.inr (by show z8≤w.heap.size;omega))
 replace p12:=hy4.keep p12 (.inr (by show z8≤w.heap.size;omega))
 replace p13:=hy4.keep p13 (.inr (by show z8≤w.heap.size;omega))
 replace p14:=hy4.keep p14 (.inr (by show z8≤w.heap.size;omega))
 replace E0:=E0.only CtlP.keepsO hy4 ((hp.off 0 4 (by omega) (by simp)).symm)
 replace E1:=SrtO.keepsO.only E1 hy4 ((hp.off 1 4 (by omega) (by simp)).symm)
 replace E6:=E6.only RulO.keepsO hy4 ((hp.off 2 4 (by omega) (by simp)).symm)
 replace E7:=E7.only StrP.keepsO hy4 ((hp.off 3 4 (by omega) (by simp)).symm)
 replace E8:=hN4
 replace O:=O.trans (hy4.widen (by omega) (by omega))
 go_wp2
 go_ret
 exact ⟨ret_int (by have hcx:=HCX.out;omega),⟨_,[s0,s1,s2,s3,s4],_,_,[.int .i64 x.agent.roots,yy1,yy2,.int .i64 x.agent.edges,yy4,yy5],_,_,_,_,_,_,_,_,_,_,rfl,E0,E1,E6,E7,E8,ec,hp⟩,O⟩
end Go.Proofs.YtccjepndhlobpaaGreatDoor
