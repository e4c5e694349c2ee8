/-
  Walks: marks that are held.
-/
import Derived.Test.YtccjepndhlobpaaGreatDoorT1
import Derived.Test.YtccjepndhlobpaaGreatDoorC1
import Derived.Deep.RegionWith
import Derived.Deep.DrawnRows
import Derived.Deep.RegionHeld3
import Derived.Deep.DeepMust
namespace Go.Proofs.YtccjepndhlobpaaGreatDoor
open Go.RowKit
set_option linter.unusedVariables false
set_option linter.unusedSimpArgs false
attribute [local irreducible] markS cnL mkL

set_option maxRecDepth 100000 in
set_option maxHeartbeats 1600000 in
theorem c_laws_heldIntS (lo hi:Nat) (v:Value) (xs:List Int) (k:Int) (w:World) (h:SlV 1 IntP lo hi w v (mkL mkI c1 k xs)) (hk:0≤k) (hk1:k+cnL c1 xs≤1000000000) :
 Calls Tryz.prog 21 #[v,.int .i64 k] w fun e w'=>e=.returned (.int .i64 (k+cnL c1 xs))∧Ext w w':=by
 obtain ⟨a,kk,rfl,g1,g2,g3,g4⟩:=h
 unfold maxLen at g2
 rw [mkL_len] at g1
 rw [mkL_len]
 go_enter Tryz.func21,Tryz.ntmps21
 go_wp2
 go_loopw [1,5] (fun d e wr=>∃(i:Nat) (J:Int),d=.int .i64 J∧e=.int .i64 i∧i≤xs.length∧J=k+cnL c1 (xs.take i)∧Ext w wr) (fun _ e _=>xs.length - (intOf e).toNat)
 case atStart=>exact ⟨0,k,rfl,rfl,Nat.zero_le _,by simp [cnL],xw⟩
 case round=>
  obtain ⟨i,J,rfl,rfl,hi',hK,hx⟩:=hrel
  have hle:=cnL_take_le c1 xs i
  by_cases hlt:i<xs.length
  ·have hct:=cnL_take c1 xs i hlt
   have hle2:=cnL_take_le c1 xs (i+1)
   rcases g4 with g4|⟨b,o,rfl,gb1,gb2,g4⟩
   ·exfalso
    have:=congrArg List.length g4
    rw [mkL_len] at this
    simp at this
    subst this
    simp at hlt
   obtain ⟨cs,hcl,hp,hc⟩:=g4 i (by rw [mkL_len];exact hlt)
   rw [mkL_at mkI c1 i k xs hlt,← hK] at hp
   have hKa:J+(1:Nat)≤1000000000:=by have hcx:c1 xs[i]=1:=rfl;omega
   have hK0:0≤J:=by omega
   have HK:=Lib.hid hK
   have HC:=Lib.hid hct
   clear g4 hK hct hk1 hle hle2 hcl
   obtain ⟨rfl,_⟩:=hp
   change CellsAt w b (o+i * 1) [.int .i64 J] at hc
   have r0:=hx.keep (hc 0 _ rfl)
   rw [Nat.mul_one,Nat.add_zero] at r0
   have hX:=hx
   go_wp2_with fail
   go_roundw
   case rel=>exact ⟨i+1,_,rfl,rfl,by omega,(by have hK:=HK.out;have hct:=HC.out;have hcx:c1 xs[i]=1:=rfl;omega),xw⟩
   all_goals (simp only [intOf];omega)
  ·have e:i=xs.length:=by omega
   subst e
   have he:=cnL_all c1 xs
   go_wp2
   go_ret
   exact ⟨ret_int (by omega),hx⟩
set_option maxRecDepth 100000 in
set_option maxHeartbeats 1600000 in
theorem c_laws_heldStringS (lo hi:Nat) (v:Value) (xs:List ByteArray) (k:Int) (w:World) (h:SlV 1 StrP lo hi w v (mkL mkS c1 k xs)) (hk:0≤k) (hk1:k+cnL c1 xs≤1000000000) :
 Calls Tryz.prog 92 #[v,.int .i64 k] w fun e w'=>e=.returned (.int .i64 (k+cnL c1 xs))∧Ext w w':=by
 obtain ⟨a,kk,rfl,g1,g2,g3,g4⟩:=h
 unfold maxLen at g2
 rw [mkL_len] at g1
 rw [mkL_len]
 go_enter Tryz.func92,Tryz.ntmps92
 go_wp2
 go_loopw [1,5] (fun d e wr=>∃(i:Nat) (J:Int),d=.int .i64 J∧e=.int .i64 i∧i≤xs.length∧J=k+cnL c1 (xs.take i)∧Ext w wr) (fun _ e _=>xs.length - (intOf e).toNat)
 case atStart=>exact ⟨0,k,rfl,rfl,Nat.zero_le _,by simp [cnL],xw⟩
 case round=>
  obtain ⟨i,J,rfl,rfl,hi',hK,hx⟩:=hrel
  have hle:=cnL_take_le c1 xs i
  by_cases hlt:i<xs.length
  ·have hct:=cnL_take c1 xs i hlt
   have hle2:=cnL_take_le c1 xs (i+1)
   rcases g4 with g4|⟨b,o,rfl,gb1,gb2,g4⟩
   ·exfalso
    have:=congrArg List.length g4
    rw [mkL_len] at this
    simp at this
    subst this
    simp at hlt
   obtain ⟨cs,hcl,hp,hc⟩:=g4 i (by rw [mkL_len];exact hlt)
   rw [mkL_at mkS c1 i k xs hlt,← hK] at hp
   have hKa:J+(1:Nat)≤1000000000:=by have hcx:c1 xs[i]=1:=rfl;omega
   have hK0:0≤J:=by omega
   have HK:=Lib.hid hK
   have HC:=Lib.hid hct
   clear g4 hK hct hk1 hle hle2 hcl
   obtain ⟨rfl,_⟩:=hp
   change CellsAt w b (o+i * 1) [.string (markS J)] at hc
   have r0:=hx.keep (hc 0 _ rfl)
   rw [Nat.mul_one,Nat.add_zero] at r0
   have hX:=hx
   go_wp2_with fail
   refine wp_region_held_drew (S:=(fun w'=>Ext wr w')) (by kernel_rfl) ?_ (fun hHeld=>?_)
   ·exact (Ext.refl wr).drew
   refine tkP 0 ?_ ?_ ?_;rotate_left;focus (intro w;go_simp;try with_reducible rfl)
   try simp only [Act.put,aput]
   refine tkP 1 ?_ ?_ ?_;rotate_left;focus (intro w;go_simp;try with_reducible rfl)
   try simp only [Act.put,aput]
   refine tkP 2 ?_ ?_ ?_;rotate_left;focus (intro w;go_simp;try with_reducible rfl)
   try simp only [Act.put,aput]
   refine tkY 3 ?_ ?_ ?_;rotate_left;focus (intro w hSw;(try dsimp only at hSw);have s0:=Ext.keep hSw r0;go_simp;try with_reducible rfl)
   try simp only [Act.put,aput]
   refine tkP 4 ?_ ?_ ?_;rotate_left;focus (intro w;go_simp;try with_reducible rfl)
   try simp only [Act.put,aput]
   refine wpAnyH_ready (rs:=[5]) (by kernel_rfl) (by simp) ?_
   refine AllReadyH.cons rfl (fun K hK=>?_) AllReadyH.nil
   (try simp only [aput])
   go_simp
   (go_at_call 84;refine (c_laws_markText (J) _ (by omega) (by omega)).mono ?_;rintro e w3 ⟨rfl,hb3⟩)
   show K _ _
   refine hK.out _ _ (by exact hHeld.trans hb3) (fun hHeld=>?_)
   clear hK K
   try simp only [Act.put,aput]
   refine tkP 6 ?_ ?_ ?_;rotate_left;focus (intro w;go_simp;try with_reducible rfl)
   try simp only [Act.put,aput]
   refine wpAnyH_done (by kernel_rfl) ?_ _
   replace r0:=hHeld.keep r0
   replace hX:=hX.trans hHeld
   clear hHeld
   go_wp2_with fail
   go_roundw
   case rel=>exact ⟨i+1,_,rfl,rfl,by omega,(by have hK:=HK.out;have hct:=HC.out;have hcx:c1 xs[i]=1:=rfl;omega),xw⟩
   all_goals (simp only [intOf];omega)
  ·have e:i=xs.length:=by omega
   subst e
   have he:=cnL_all c1 xs
   go_wp2
   go_ret
   exact ⟨ret_int (by omega),hx⟩
set_option maxRecDepth 100000 in
set_option maxHeartbeats 1600000 in
theorem c_laws_heldControlS (lo hi:Nat) (v:Value) (xs:List Ctl) (k:Int) (w:World) (h:SlV 3 CtlP lo hi w v (mkL mkCtl c3 k xs)) (hk:0≤k) (hk1:k+cnL c3 xs≤1000000000) :
 Calls Tryz.prog 89 #[v,.int .i64 k] w fun e w'=>e=.returned (.int .i64 (k+cnL c3 xs))∧Ext w w':=by
 obtain ⟨a,kk,rfl,g1,g2,g3,g4⟩:=h
 unfold maxLen at g2
 rw [mkL_len] at g1
 rw [mkL_len]
 go_enter Tryz.func89,Tryz.ntmps89
 go_wp2
 go_loopw [1,5] (fun d e wr=>∃(i:Nat) (J:Int),d=.int .i64 J∧e=.int .i64 i∧i≤xs.length∧J=k+cnL c3 (xs.take i)∧Ext w wr) (fun _ e _=>xs.length - (intOf e).toNat)
 case atStart=>exact ⟨0,k,rfl,rfl,Nat.zero_le _,by simp [cnL],xw⟩
 case round=>
  obtain ⟨i,J,rfl,rfl,hi',hK,hx⟩:=hrel
  have hle:=cnL_take_le c3 xs i
  by_cases hlt:i<xs.length
  ·have hct:=cnL_take c3 xs i hlt
   have hle2:=cnL_take_le c3 xs (i+1)
   rcases g4 with g4|⟨b,o,rfl,gb1,gb2,g4⟩
   ·exfalso
    have:=congrArg List.length g4
    rw [mkL_len] at this
    simp at this
    subst this
    simp at hlt
   obtain ⟨cs,hcl,hp,hc⟩:=g4 i (by rw [mkL_len];exact hlt)
   rw [mkL_at mkCtl c3 i k xs hlt,← hK] at hp
   have hKa:J+(3:Nat)≤1000000000:=by have hcx:c3 xs[i]=3:=rfl;omega
   have hK0:0≤J:=by omega
   have HK:=Lib.hid hK
   have HC:=Lib.hid hct
   clear g4 hK hct hk1 hle hle2 hcl
   obtain ⟨rfl,_⟩:=hp
   change CellsAt w b (o+i * 3) [.string (markS J),.int .i64 (J+1),.int .i64 (J+1+1)] at hc
   have r0:=hx.keep (hc 0 _ rfl)
   have r1:=hx.keep (hc 1 _ rfl)
   have r2:=hx.keep (hc 2 _ rfl)
   rw [Nat.add_zero] at r0
   have hX:=hx
   go_wp2_with fail
   refine wp_region_held_drew (S:=(fun w'=>Ext wr w')) (by kernel_rfl) ?_ (fun hHeld=>?_)
   ·exact (Ext.refl wr).drew
   refine tkP 0 ?_ ?_ ?_;rotate_left;focus (intro w;go_simp;try with_reducible rfl)
   try simp only [Act.put,aput]
   refine tkP 1 ?_ ?_ ?_;rotate_left;focus (intro w;go_simp;try with_reducible rfl)
   try simp only [Act.put,aput]
   refine tkP 2 ?_ ?_ ?_;rotate_left;focus (intro w;go_simp;try with_reducible rfl)
   try simp only [Act.put,aput]
   refine tkP 3 ?_ ?_ ?_;rotate_left;focus (intro w;go_simp;try with_reducible rfl)
   try simp only [Act.put,aput]
   refine tkY 4 ?_ ?_ ?_;rotate_left;focus (intro w hSw;(try dsimp only at hSw);have s0:=Ext.keep hSw r0;have s1:=Ext.keep hSw r1;have s2:=Ext.keep hSw r2;go_simp;try with_reducible rfl)
   try simp only [Act.put,aput]
   refine tkP 5 ?_ ?_ ?_;rotate_left;focus (intro w;go_simp;try with_reducible rfl)
   try simp only [Act.put,aput]
   refine wpAnyH_ready (rs:=[6]) (by kernel_rfl) (by simp) ?_
   refine AllReadyH.cons rfl (fun K hK=>?_) AllReadyH.nil
   (try simp only [aput])
   go_simp
   (go_at_call 84;refine (c_laws_markText (J) _ (by omega) (by omega)).mono ?_;rintro e w3 ⟨rfl,hb3⟩)
   show K _ _
   refine hK.out _ _ (by exact hHeld.trans hb3) (fun hHeld=>?_)
   clear hK K
   try simp only [Act.put,aput]
   refine tkP 7 ?_ ?_ ?_;rotate_left;focus (intro w;go_simp;try with_reducible rfl)
   try simp only [Act.put,aput]
   refine wpAnyH_done (by kernel_rfl) ?_ _
   replace r0:=hHeld.keep r0
   replace r1:=hHeld.keep r1
   replace r2:=hHeld.keep r2
   replace hX:=hX.trans hHeld
   clear hHeld
   go_wp2_with fail
   go_roundw
   case rel=>exact ⟨i+1,_,rfl,rfl,by omega,(by have hK:=HK.out;have hct:=HC.out;have hcx:c3 xs[i]=3:=rfl;omega),xw⟩
   all_goals (simp only [intOf];omega)
  ·have e:i=xs.length:=by omega
   subst e
   have he:=cnL_all c3 xs
   go_wp2
   go_ret
   exact ⟨ret_int (by omega),hx⟩
set_option maxRecDepth 100000 in
set_option maxHeartbeats 1600000 in
theorem c_laws_heldWireS (lo hi:Nat) (v:Value) (xs:List Wr) (k:Int) (w:World) (h:SlV 2 WrP lo hi w v (mkL mkWr c2 k xs)) (hk:0≤k) (hk1:k+cnL c2 xs≤1000000000) :
 Calls Tryz.prog 143 #[v,.int .i64 k] w fun e w'=>e=.returned (.int .i64 (k+cnL c2 xs))∧Ext w w':=by
 obtain ⟨a,kk,rfl,g1,g2,g3,g4⟩:=h
 unfold maxLen at g2
 rw [mkL_len] at g1
 rw [mkL_len]
 go_enter Tryz.func143,Tryz.ntmps143
 go_wp2
 go_loopw [1,5] (fun d e wr=>∃(i:Nat) (J:Int),d=.int .i64 J∧e=.int .i64 i∧i≤xs.length∧J=k+cnL c2 (xs.take i)∧Ext w wr) (fun _ e _=>xs.length - (intOf e).toNat)
 case atStart=>exact ⟨0,k,rfl,rfl,Nat.zero_le _,by simp [cnL],xw⟩
 case round=>
  obtain ⟨i,J,rfl,rfl,hi',hK,hx⟩:=hrel
  have hle:=cnL_take_le c2 xs i
  by_cases hlt:i<xs.length
  ·have hct:=cnL_take c2 xs i hlt
   have hle2:=cnL_take_le c2 xs (i+1)
   rcases g4 with g4|⟨b,o,rfl,gb1,gb2,g4⟩
   ·exfalso
    have:=congrArg List.length g4
    rw [mkL_len] at this
    simp at this
    subst this
    simp at hlt
   obtain ⟨cs,hcl,hp,hc⟩:=g4 i (by rw [mkL_len];exact hlt)
   rw [mkL_at mkWr c2 i k xs hlt,← hK] at hp
   have hKa:J+(2:Nat)≤1000000000:=by have hcx:c2 xs[i]=2:=rfl;omega
   have hK0:0≤J:=by omega
   have HK:=Lib.hid hK
   have HC:=Lib.hid hct
   clear g4 hK hct hk1 hle hle2 hcl
   obtain ⟨rfl,_⟩:=hp
   change CellsAt w b (o+i * 2) [.string (markS J),.int .i64 (J+1)] at hc
   have r0:=hx.keep (hc 0 _ rfl)
   have r1:=hx.keep (hc 1 _ rfl)
   rw [Nat.add_zero] at r0
   have hX:=hx
   go_wp2_with fail
   refine wp_region_held_drew (S:=(fun w'=>Ext wr w')) (by kernel_rfl) ?_ (fun hHeld=>?_)
   ·exact (Ext.refl wr).drew
   refine tkP 0 ?_ ?_ ?_;rotate_left;focus (intro w;go_simp;try with_reducible rfl)
   try simp only [Act.put,aput]
   refine tkP 1 ?_ ?_ ?_;rotate_left;focus (intro w;go_simp;try with_reducible rfl)
   try simp only [Act.put,aput]
   refine tkP 2 ?_ ?_ ?_;rotate_left;focus (intro w;go_simp;try with_reducible rfl)
   try simp only [Act.put,aput]
   refine tkP 3 ?_ ?_ ?_;rotate_left;focus (intro w;go_simp;try with_reducible rfl)
   try simp only [Act.put,aput]
   refine tkY 4 ?_ ?_ ?_;rotate_left;focus (intro w hSw;(try dsimp only at hSw);have s0:=Ext.keep hSw r0;have s1:=Ext.keep hSw r1;go_simp;try with_reducible rfl)
   try simp only [Act.put,aput]
   refine tkP 5 ?_ ?_ ?_;rotate_left;focus (intro w;go_simp;try with_reducible rfl)
   try simp only [Act.put,aput]
   refine wpAnyH_ready (rs:=[6]) (by kernel_rfl) (by simp) ?_
   refine AllReadyH.cons rfl (fun K hK=>?_) AllReadyH.nil
   (try simp only [aput])
   go_simp
   (go_at_call 84;refine (c_laws_markText (J) _ (by omega) (by omega)).mono ?_;rintro e w3 ⟨rfl,hb3⟩)
   show K _ _
   refine hK.out _ _ (by exact hHeld.trans hb3) (fun hHeld=>?_)
   clear hK K
   try simp only [Act.put,aput]
   refine tkP 7 ?_ ?_ ?_;rotate_left;focus (intro w;go_simp;try with_reducible rfl)
   try simp only [Act.put,aput]
   refine wpAnyH_done (by kernel_rfl) ?_ _
   replace r0:=hHeld.keep r0
   replace r1:=hHeld.keep r1
   replace hX:=hX.trans hHeld
   clear hHeld
   go_wp2_with fail
   go_roundw
   case rel=>exact ⟨i+1,_,rfl,rfl,by omega,(by have hK:=HK.out;have hct:=HC.out;have hcx:c2 xs[i]=2:=rfl;omega),xw⟩
   all_goals (simp only [intOf];omega)
  ·have e:i=xs.length:=by omega
   subst e
   have he:=cnL_all c2 xs
   go_wp2
   go_ret
   exact ⟨ret_int (by omega),hx⟩
set_option maxRecDepth 100000 in
set_option maxHeartbeats 1600000 in
theorem c_laws_heldNodeS (lo hi:Nat) (v:Value) (xs:List Nd) (k:Int) (w:World) (h:SlV 3 NdP lo hi w v (mkL mkNd cNd k xs)) (hk:0≤k) (hk1:k+cnL cNd xs≤1000000000) :
 Calls Tryz.prog 142 #[v,.int .i64 k] w fun e w'=>e=.returned (.int .i64 (k+cnL cNd xs))∧Ext w w':=by
 obtain ⟨a,kk,rfl,g1,g2,g3,g4⟩:=h
 unfold maxLen at g2
 rw [mkL_len] at g1
 rw [mkL_len]
 go_enter Tryz.func142,Tryz.ntmps142
 go_wp2
 go_loopw [1,5] (fun d e wr=>∃(i:Nat) (J:Int),d=.int .i64 J∧e=.int .i64 i∧i≤xs.length∧J=k+cnL cNd (xs.take i)∧Ext w wr) (fun _ e _=>xs.length - (intOf e).toNat)
 case atStart=>exact ⟨0,k,rfl,rfl,Nat.zero_le _,by simp [cnL],xw⟩
 case round=>
  obtain ⟨i,J,rfl,rfl,hi',hK,hx⟩:=hrel
  have hle:=cnL_take_le cNd xs i
  by_cases hlt:i<xs.length
  ·have hct:=cnL_take cNd xs i hlt
   have hle2:=cnL_take_le cNd xs (i+1)
   rcases g4 with g4|⟨b,o,rfl,gb1,gb2,g4⟩
   ·exfalso
    have:=congrArg List.length g4
    rw [mkL_len] at this
    simp at this
    subst this
    simp at hlt
   obtain ⟨cs,hcl,hp,hc⟩:=g4 i (by rw [mkL_len];exact hlt)
   rw [mkL_at mkNd cNd i k xs hlt,← hK] at hp
   have hKa:J+((2+cnL c1 (xs[i]).links):Nat)≤1000000000:=by have hcx:cNd xs[i]=(2+cnL c1 (xs[i]).links):=rfl;omega
   have hK0:0≤J:=by omega
   have HK:=Lib.hid hK
   have HC:=Lib.hid hct
   clear g4 hK hct hk1 hle hle2 hcl
   obtain ⟨nv,rfl,_,_,E0⟩:=hp
   change CellsAt w b (o+i * 3) [.int .i64 J,.int .i64 (J+1),nv] at hc
   have r0:=hx.keep (hc 0 _ rfl)
   have r1:=hx.keep (hc 1 _ rfl)
   have r2:=hx.keep (hc 2 _ rfl)
   rw [Nat.add_zero] at r0
   replace E0:=E0.ext IntP.keeps hx
   have hX:=hx
   go_wp2_with fail
   refine (c_laws_heldIntS lo hi _ (xs[i]).links (J+1+1) _ E0 (by omega) (by omega)).mono ?_
   rintro e y0 ⟨rfl,hy0⟩
   replace r0:=hy0.keep r0
   replace r1:=hy0.keep r1
   replace r2:=hy0.keep r2
   replace E0:=E0.ext IntP.keeps hy0
   replace hX:=hX.trans hy0
   go_wp2_with fail
   go_roundw
   case rel=>exact ⟨i+1,_,rfl,rfl,by omega,(by have hK:=HK.out;have hct:=HC.out;have hcx:cNd xs[i]=(2+cnL c1 (xs[i]).links):=rfl;omega),xw⟩
   all_goals (simp only [intOf];omega)
  ·have e:i=xs.length:=by omega
   subst e
   have he:=cnL_all cNd xs
   go_wp2
   go_ret
   exact ⟨ret_int (by omega),hx⟩
set_option maxRecDepth 100000 in
set_option maxHeartbeats 1600000 in
theorem c_laws_heldIntSS (lo hi:Nat) (v:Value) (xs:List (List Int)) (k:Int) (w:World) (h:SlV 1 RowP lo hi w v (mkL mkRow cRow k xs)) (hk:0≤k) (hk1:k+cnL cRow xs≤1000000000) :
 Calls Tryz.prog 140 #[v,.int .i64 k] w fun e w'=>e=.returned (.int .i64 (k+cnL cRow xs))∧Ext w w':=by
 obtain ⟨a,kk,rfl,g1,g2,g3,g4⟩:=h
 unfold maxLen at g2
 rw [mkL_len] at g1
 rw [mkL_len]
 go_enter Tryz.func140,Tryz.ntmps140
 go_wp2
 go_loopw [1,5] (fun d e wr=>∃(i:Nat) (J:Int),d=.int .i64 J∧e=.int .i64 i∧i≤xs.length∧J=k+cnL cRow (xs.take i)∧Ext w wr) (fun _ e _=>xs.length - (intOf e).toNat)
 case atStart=>exact ⟨0,k,rfl,rfl,Nat.zero_le _,by simp [cnL],xw⟩
 case round=>
  obtain ⟨i,J,rfl,rfl,hi',hK,hx⟩:=hrel
  have hle:=cnL_take_le cRow xs i
  by_cases hlt:i<xs.length
  ·have hct:=cnL_take cRow xs i hlt
   have hle2:=cnL_take_le cRow xs (i+1)
   rcases g4 with g4|⟨b,o,rfl,gb1,gb2,g4⟩
   ·exfalso
    have:=congrArg List.length g4
    rw [mkL_len] at this
    simp at this
    subst this
    simp at hlt
   obtain ⟨cs,hcl,hp,hc⟩:=g4 i (by rw [mkL_len];exact hlt)
   rw [mkL_at mkRow cRow i k xs hlt,← hK] at hp
   have hKa:J+((cnL c1 xs[i]):Nat)≤1000000000:=by have hcx:cRow xs[i]=(cnL c1 xs[i]):=rfl;omega
   have hK0:0≤J:=by omega
   have HK:=Lib.hid hK
   have HC:=Lib.hid hct
   clear g4 hK hct hk1 hle hle2 hcl
   obtain ⟨rv,rfl,E0⟩:=hp
   change CellsAt w b (o+i * 1) [rv] at hc
   have r0:=hx.keep (hc 0 _ rfl)
   rw [Nat.mul_one,Nat.add_zero] at r0
   replace E0:=E0.ext IntP.keeps hx
   have hX:=hx
   go_wp2_with fail
   refine (c_laws_heldIntS lo hi _ xs[i] (J) _ E0 (by omega) (by omega)).mono ?_
   rintro e y0 ⟨rfl,hy0⟩
   replace r0:=hy0.keep r0
   replace E0:=E0.ext IntP.keeps hy0
   replace hX:=hX.trans hy0
   go_wp2_with fail
   go_roundw
   case rel=>exact ⟨i+1,_,rfl,rfl,by omega,(by have hK:=HK.out;have hct:=HC.out;have hcx:cRow xs[i]=(cnL c1 xs[i]):=rfl;omega),xw⟩
   all_goals (simp only [intOf];omega)
  ·have e:i=xs.length:=by omega
   subst e
   have he:=cnL_all cRow xs
   go_wp2
   go_ret
   exact ⟨ret_int (by omega),hx⟩
set_option maxRecDepth 100000 in
set_option maxHeartbeats 1600000 in
theorem c_laws_heldIntA2S (lo hi:Nat) (v:Value) (xs:List (Int × Int)) (k:Int) (w:World) (h:SlV 2 PairP lo hi w v (mkL mkPair c2 k xs)) (hk:0≤k) (hk1:k+cnL c2 xs≤1000000000) :
 Calls Tryz.prog 141 #[v,.int .i64 k] w fun e w'=>e=.returned (.int .i64 (k+cnL c2 xs))∧Ext w w':=by
 obtain ⟨a,kk,rfl,g1,g2,g3,g4⟩:=h
 unfold maxLen at g2
 rw [mkL_len] at g1
 rw [mkL_len]
 go_enter Tryz.func141,Tryz.ntmps141
 go_wp2
 go_loopw [1,5] (fun d e wr=>∃(i:Nat) (J:Int),d=.int .i64 J∧e=.int .i64 i∧i≤xs.length∧J=k+cnL c2 (xs.take i)∧Ext w wr) (fun _ e _=>xs.length - (intOf e).toNat)
 case atStart=>exact ⟨0,k,rfl,rfl,Nat.zero_le _,by simp [cnL],xw⟩
 case round=>
  obtain ⟨i,J,rfl,rfl,hi',hK,hx⟩:=hrel
  have hle:=cnL_take_le c2 xs i
  by_cases hlt:i<xs.length
  ·have hct:=cnL_take c2 xs i hlt
   have hle2:=cnL_take_le c2 xs (i+1)
   rcases g4 with g4|⟨b,o,rfl,gb1,gb2,g4⟩
   ·exfalso
    have:=congrArg List.length g4
    rw [mkL_len] at this
    simp at this
    subst this
    simp at hlt
   obtain ⟨cs,hcl,hp,hc⟩:=g4 i (by rw [mkL_len];exact hlt)
   rw [mkL_at mkPair c2 i k xs hlt,← hK] at hp
   have hKa:J+(2:Nat)≤1000000000:=by have hcx:c2 xs[i]=2:=rfl;omega
   have hK0:0≤J:=by omega
   have HK:=Lib.hid hK
   have HC:=Lib.hid hct
   clear g4 hK hct hk1 hle hle2 hcl
   obtain ⟨rfl,_⟩:=hp
   change CellsAt w b (o+i * 2) [.int .i64 J,.int .i64 (J+1)] at hc
   have r0:=hx.keep (hc 0 _ rfl)
   have r1:=hx.keep (hc 1 _ rfl)
   rw [Nat.add_zero] at r0
   go_wp2_with fail
   go_loopw [1,6] (fun d e wi=>Ext wr wi∧((e=.int .i64 0∧d=.int .i64 J)∨(e=.int .i64 1∧d=.int .i64 (J+1))∨(e=.int .i64 2∧d=.int .i64 (J+1+1)))) (fun _ e _=>2 - (intOf e).toNat)
   case atStart=>exact ⟨Ext.refl _,.inl ⟨rfl,rfl⟩⟩
   case round=>
    obtain ⟨hT,⟨rfl,rfl⟩|⟨rfl,rfl⟩|⟨rfl,rfl⟩⟩:=hrel
    ·have s0:=hT.keep r0
     go_wp2_with fail
     go_roundw
     case rel=>exact ⟨hT,.inr (.inl ⟨rfl,rfl⟩)⟩
     all_goals (simp only [intOf];omega)
    ·have s1:=hT.keep r1
     go_wp2_with fail
     go_roundw
     case rel=>exact ⟨hT,.inr (.inr ⟨rfl,rfl⟩)⟩
     all_goals (simp only [intOf];omega)
    ·go_wp2_with fail
     go_roundw
     case rel=>exact ⟨i+1,_,rfl,rfl,by omega,(by have hK:=HK.out;have hct:=HC.out;have hcx:c2 xs[i]=2:=rfl;omega),hx.trans hT⟩
     all_goals (simp only [intOf];omega)
  ·have e:i=xs.length:=by omega
   subst e
   have he:=cnL_all c2 xs
   go_wp2
   go_ret
   exact ⟨ret_int (by omega),hx⟩
set_option maxRecDepth 100000 in
set_option maxHeartbeats 1600000 in
theorem c_laws_heldBigraph (lo hi:Nat) (cs:List Value) (x:Big) (k:Int) (w:World) (h:BigP lo hi w cs (mkBig k x)) (hk:0≤k) (hk1:k+cBig x≤1000000000) :
 Calls Tryz.prog 93 #[.agg cs.toArray,.int .i64 k] w fun e w'=>e=.returned (.int .i64 (k+cBig x))∧Ext w w':=by
 obtain ⟨v1,v2,v4,v5,rfl,r1,r2,E1,E2,E4,E5⟩:=h
 have hcx:cBig x=cnL cNd x.nodes+cnL c1 x.sites+cnL c1 x.outer+cnL c2 x.inner:=rfl
 have hkb:k+((cnL cNd x.nodes+cnL c1 x.sites+cnL c1 x.outer+cnL c2 x.inner:Nat):Int)≤1000000000:=by omega
 clear hk1
 have HCX:=Lib.hid hcx
 clear hcx
 change Calls Tryz.prog 93 #[.agg #[.int .i64 x.roots,v1,v2,.int .i64 x.edges,v4,v5],.int .i64 k] w _
 obtain ⟨W0,hW0,hbx,hx0,hz⟩:=box_facts w [.int .i64 x.roots,v1,v2,.int .i64 x.edges,v4,v5] 44
 have p0:=(hbx 0 _ rfl).1
 have p1:=(hbx 1 _ rfl).1
 have p2:=(hbx 2 _ rfl).1
 have p3:=(hbx 3 _ rfl).1
 have p4:=(hbx 4 _ rfl).1
 have p5:=(hbx 5 _ rfl).1
 clear hz hbx
 replace E1:=E1.ext NdP.keeps hx0
 replace E2:=E2.ext IntP.keeps hx0
 replace E4:=E4.ext StrP.keeps hx0
 replace E5:=E5.ext WrP.keeps hx0
 have hX:=hx0
 go_enter Tryz.func93,Tryz.ntmps93
 go_wp2_with fail
 refine (c_laws_heldNodeS lo hi _ x.nodes (k) _ E1 (by omega) (by omega)).mono ?_
 rintro e y0 ⟨rfl,hy0⟩
 replace p0:=hy0.keep p0
 replace p1:=hy0.keep p1
 replace p2:=hy0.keep p2
 replace p3:=hy0.keep p3
 replace p4:=hy0.keep p4
 replace p5:=hy0.keep p5
 replace E1:=E1.ext NdP.keeps hy0
 replace E2:=E2.ext IntP.keeps hy0
 replace E4:=E4.ext StrP.keeps hy0
 replace E5:=E5.ext WrP.keeps hy0
 replace hX:=hX.trans hy0
 go_wp2_with fail
 refine (c_laws_heldIntS lo hi _ x.sites (k+((cnL cNd x.nodes:Nat):Int)) _ E2 (by omega) (by omega)).mono ?_
 rintro e y1 ⟨rfl,hy1⟩
 replace p0:=hy1.keep p0
 replace p1:=hy1.keep p1
 replace p2:=hy1.keep p2
 replace p3:=hy1.keep p3
 replace p4:=hy1.keep p4
 replace p5:=hy1.keep p5
 replace E1:=E1.ext NdP.keeps hy1
 replace E2:=E2.ext IntP.keeps hy1
 replace E4:=E4.ext StrP.keeps hy1
 replace E5:=E5.ext WrP.keeps hy1
 replace hX:=hX.trans hy1
 go_wp2_with fail
 refine (c_laws_heldStringS lo hi _ x.outer (k+((cnL cNd x.nodes:Nat):Int)+((cnL c1 x.sites:Nat):Int)) _ E4 (by omega) (by omega)).mono ?_
 rintro e y2 ⟨rfl,hy2⟩
 replace p0:=hy2.keep p0
 replace p1:=hy2.keep p1
 replace p2:=hy2.keep p2
 replace p3:=hy2.keep p3
 replace p4:=hy2.keep p4
 replace p5:=hy2.keep p5
 replace E1:=E1.ext NdP.keeps hy2
 replace E2:=E2.ext IntP.keeps hy2
 replace E4:=E4.ext StrP.keeps hy2
 replace E5:=E5.ext WrP.keeps hy2
 replace hX:=hX.trans hy2
 go_wp2_with fail
 refine (c_laws_heldWireS lo hi _ x.inner (k+((cnL cNd x.nodes:Nat):Int)+((cnL c1 x.sites:Nat):Int)+((cnL c1 x.outer:Nat):Int)) _ E5 (by omega) (by omega)).mono ?_
 rintro e y3 ⟨rfl,hy3⟩
 replace p0:=hy3.keep p0
 replace p1:=hy3.keep p1
 replace p2:=hy3.keep p2
 replace p3:=hy3.keep p3
 replace p4:=hy3.keep p4
 replace p5:=hy3.keep p5
 replace E1:=E1.ext NdP.keeps hy3
 replace E2:=E2.ext IntP.keeps hy3
 replace E4:=E4.ext StrP.keeps hy3
 replace E5:=E5.ext WrP.keeps hy3
 replace hX:=hX.trans hy3
 go_wp2
 go_ret
 exact ⟨ret_int (by have hcx:=HCX.out;omega),xw⟩
set_option maxRecDepth 100000 in
set_option maxHeartbeats 1600000 in
theorem c_laws_heldSorting (lo hi:Nat) (cs:List Value) (x:Srt) (k:Int) (w:World) (h:SrtP lo hi w cs (mkSrt k x)) (hk:0≤k) (hk1:k+cSrt x≤1000000000) :
 Calls Tryz.prog 90 #[.agg cs.toArray,.int .i64 k] w fun e w'=>e=.returned (.int .i64 (k+cSrt x))∧Ext w w':=by
 obtain ⟨v0,v1,v2,v3,v4,rfl,S0,S1,S2,S3,S4⟩:=h
 have hcx:cSrt x=cnL c1 x.tops+cnL cRow x.nest+cnL cRow x.sorts+cnL c1 x.most+cnL c2 x.apart:=rfl
 have hkb:k+((cnL c1 x.tops+cnL cRow x.nest+cnL cRow x.sorts+cnL c1 x.most+cnL c2 x.apart:Nat):Int)≤1000000000:=by omega
 clear hk1
 have HCX:=Lib.hid hcx
 clear hcx
 change Calls Tryz.prog 90 #[.agg #[v0,v1,v2,v3,v4],.int .i64 k] w _
 obtain ⟨W0,hW0,hbx,hx0,hz⟩:=box_facts w [v0,v1,v2,v3,v4] 39
 have p0:=(hbx 0 _ rfl).1
 have p1:=(hbx 1 _ rfl).1
 have p2:=(hbx 2 _ rfl).1
 have p3:=(hbx 3 _ rfl).1
 have p4:=(hbx 4 _ rfl).1
 clear hz hbx
 replace S0:=S0.ext IntP.keeps hx0
 replace S1:=S1.ext RowP.keeps hx0
 replace S2:=S2.ext RowP.keeps hx0
 replace S3:=S3.ext IntP.keeps hx0
 replace S4:=S4.ext PairP.keeps hx0
 have hX:=hx0
 go_enter Tryz.func90,Tryz.ntmps90
 go_wp2_with fail
 refine (c_laws_heldIntS lo hi _ x.tops (k) _ S0 (by omega) (by omega)).mono ?_
 rintro e y0 ⟨rfl,hy0⟩
 replace p0:=hy0.keep p0
 replace p1:=hy0.keep p1
 replace p2:=hy0.keep p2
 replace p3:=hy0.keep p3
 replace p4:=hy0.keep p4
 replace S0:=S0.ext IntP.keeps hy0
 replace S1:=S1.ext RowP.keeps hy0
 replace S2:=S2.ext RowP.keeps hy0
 replace S3:=S3.ext IntP.keeps hy0
 replace S4:=S4.ext PairP.keeps hy0
 replace hX:=hX.trans hy0
 go_wp2_with fail
 refine (c_laws_heldIntSS lo hi _ x.nest (k+((cnL c1 x.tops:Nat):Int)) _ S1 (by omega) (by omega)).mono ?_
 rintro e y1 ⟨rfl,hy1⟩
 replace p0:=hy1.keep p0
 replace p1:=hy1.keep p1
 replace p2:=hy1.keep p2
 replace p3:=hy1.keep p3
 replace p4:=hy1.keep p4
 replace S0:=S0.ext IntP.keeps hy1
 replace S1:=S1.ext RowP.keeps hy1
 replace S2:=S2.ext RowP.keeps hy1
 replace S3:=S3.ext IntP.keeps hy1
 replace S4:=S4.ext PairP.keeps hy1
 replace hX:=hX.trans hy1
 go_wp2_with fail
 refine (c_laws_heldIntSS lo hi _ x.sorts (k+((cnL c1 x.tops:Nat):Int)+((cnL cRow x.nest:Nat):Int)) _ S2 (by omega) (by omega)).mono ?_
 rintro e y2 ⟨rfl,hy2⟩
 replace p0:=hy2.keep p0
 replace p1:=hy2.keep p1
 replace p2:=hy2.keep p2
 replace p3:=hy2.keep p3
 replace p4:=hy2.keep p4
 replace S0:=S0.ext IntP.keeps hy2
 replace S1:=S1.ext RowP.keeps hy2
 replace S2:=S2.ext RowP.keeps hy2
 replace S3:=S3.ext IntP.keeps hy2
 replace S4:=S4.ext PairP.keeps hy2
 replace hX:=hX.trans hy2
 go_wp2_with fail
 refine (c_laws_heldIntS lo hi _ x.most (k+((cnL c1 x.tops:Nat):Int)+((cnL cRow x.nest:Nat):Int)+((cnL cRow x.sorts:Nat):Int)) _ S3 (by omega) (by omega)).mono ?_
 rintro e y3 ⟨rfl,hy3⟩
 replace p0:=hy3.keep p0
 replace p1:=hy3.keep p1
 replace p2:=hy3.keep p2
 replace p3:=hy3.keep p3
 replace p4:=hy3.keep p4
 replace S0:=S0.ext IntP.keeps hy3
 replace S1:=S1.ext RowP.keeps hy3
 replace S2:=S2.ext RowP.keeps hy3
 replace S3:=S3.ext IntP.keeps hy3
 replace S4:=S4.ext PairP.keeps hy3
 replace hX:=hX.trans hy3
 go_wp2_with fail
 refine (c_laws_heldIntA2S lo hi _ x.apart (k+((cnL c1 x.tops:Nat):Int)+((cnL cRow x.nest:Nat):Int)+((cnL cRow x.sorts:Nat):Int)+((cnL c1 x.most:Nat):Int)) _ S4 (by omega) (by omega)).mono ?_
 rintro e y4 ⟨rfl,hy4⟩
 replace p0:=hy4.keep p0
 replace p1:=hy4.keep p1
 replace p2:=hy4.keep p2
 replace p3:=hy4.keep p3
 replace p4:=hy4.keep p4
 replace S0:=S0.ext IntP.keeps hy4
 replace S1:=S1.ext RowP.keeps hy4
 replace S2:=S2.ext RowP.keeps hy4
 replace S3:=S3.ext IntP.keeps hy4
 replace S4:=S4.ext PairP.keeps hy4
 replace hX:=hX.trans hy4
 go_wp2
 go_ret
 exact ⟨ret_int (by have hcx:=HCX.out;omega),xw⟩
set_option maxRecDepth 100000 in
set_option maxHeartbeats 1600000 in
theorem c_laws_heldRuleS (lo hi:Nat) (v:Value) (xs:List Rul) (k:Int) (w:World) (h:SlV 13 RulP lo hi w v (mkL mkRulR cRulR k xs)) (hk:0≤k) (hk1:k+cnL cRulR xs≤1000000000) :
 Calls Tryz.prog 91 #[v,.int .i64 k] w fun e w'=>e=.returned (.int .i64 (k+cnL cRulR xs))∧Ext w w':=by
 obtain ⟨a,kk,rfl,g1,g2,g3,g4⟩:=h
 unfold maxLen at g2
 rw [mkL_len] at g1
 rw [mkL_len]
 go_enter Tryz.func91,Tryz.ntmps91
 go_wp2
 go_loopw [1,5] (fun d e wr=>∃(i:Nat) (J:Int),d=.int .i64 J∧e=.int .i64 i∧i≤xs.length∧J=k+cnL cRulR (xs.take i)∧Ext w wr) (fun _ e _=>xs.length - (intOf e).toNat)
 case atStart=>exact ⟨0,k,rfl,rfl,Nat.zero_le _,by simp [cnL],xw⟩
 case round=>
  obtain ⟨i,J,rfl,rfl,hi',hK,hx⟩:=hrel
  have hle:=cnL_take_le cRulR xs i
  by_cases hlt:i<xs.length
  ·have hct:=cnL_take cRulR xs i hlt
   have hle2:=cnL_take_le cRulR xs (i+1)
   rcases g4 with g4|⟨b,o,rfl,gb1,gb2,g4⟩
   ·exfalso
    have:=congrArg List.length g4
    rw [mkL_len] at this
    simp at this
    subst this
    simp at hlt
   obtain ⟨cs,hcl,hp,hc⟩:=g4 i (by rw [mkL_len];exact hlt)
   rw [mkL_at mkRulR cRulR i k xs hlt,← hK] at hp
   have hKa:J+(((cnL cNd (xs[i]).redex.nodes+cnL c1 (xs[i]).redex.sites+cnL c1 (xs[i]).redex.outer+cnL c2 (xs[i]).redex.inner+2)+(cnL cNd (xs[i]).reactum.nodes+cnL c1 (xs[i]).reactum.sites+cnL c1 (xs[i]).reactum.outer+cnL c2 (xs[i]).reactum.inner+2)+cnL c1 (xs[i]).copies):Nat)≤1000000000:=by have hcx:cRulR xs[i]=((cnL cNd (xs[i]).redex.nodes+cnL c1 (xs[i]).redex.sites+cnL c1 (xs[i]).redex.outer+cnL c2 (xs[i]).redex.inner+2)+(cnL cNd (xs[i]).reactum.nodes+cnL c1 (xs[i]).reactum.sites+cnL c1 (xs[i]).reactum.outer+cnL c2 (xs[i]).reactum.inner+2)+cnL c1 (xs[i]).copies):=rfl;omega
   have hK0:0≤J:=by omega
   have HK:=Lib.hid hK
   have HC:=Lib.hid hct
   clear g4 hK hct hk1 hle hle2 hcl
   obtain ⟨cs1,cs2,v3,rfl,⟨m1,m2,m4,m5,rfl,_,_,N1,S1,O1,I1⟩,⟨n1,n2,n4,n5,rfl,_,_,N2,S2,O2,I2⟩,C3⟩:=hp
   change CellsAt w b (o+i * 13) [.int .i64 J,m1,m2,.int .i64 (J+1+(cnL cNd (xs[i]).redex.nodes:Int)+(cnL c1 (xs[i]).redex.sites:Int)),m4,m5,.int .i64 (J+1+(cnL cNd (xs[i]).redex.nodes:Int)+(cnL c1 (xs[i]).redex.sites:Int)+1+(cnL c1 (xs[i]).redex.outer:Int)+(cnL c2 (xs[i]).redex.inner:Int)),n1,n2,.int .i64 (J+1+(cnL cNd (xs[i]).redex.nodes:Int)+(cnL c1 (xs[i]).redex.sites:Int)+1+(cnL c1 (xs[i]).redex.outer:Int)+(cnL c2 (xs[i]).redex.inner:Int)+1+(cnL cNd (xs[i]).reactum.nodes:Int)+(cnL c1 (xs[i]).reactum.sites:Int)),n4,n5,v3] at hc
   have r0:=hx.keep (hc 0 _ rfl)
   have r1:=hx.keep (hc 1 _ rfl)
   have r2:=hx.keep (hc 2 _ rfl)
   have r3:=hx.keep (hc 3 _ rfl)
   have r4:=hx.keep (hc 4 _ rfl)
   have r5:=hx.keep (hc 5 _ rfl)
   have r6:=hx.keep (hc 6 _ rfl)
   have r7:=hx.keep (hc 7 _ rfl)
   have r8:=hx.keep (hc 8 _ rfl)
   have r9:=hx.keep (hc 9 _ rfl)
   have r10:=hx.keep (hc 10 _ rfl)
   have r11:=hx.keep (hc 11 _ rfl)
   have r12:=hx.keep (hc 12 _ rfl)
   rw [Nat.add_zero] at r0
   replace N1:=N1.ext NdP.keeps hx
   replace S1:=S1.ext IntP.keeps hx
   replace O1:=O1.ext StrP.keeps hx
   replace I1:=I1.ext WrP.keeps hx
   replace N2:=N2.ext NdP.keeps hx
   replace S2:=S2.ext IntP.keeps hx
   replace O2:=O2.ext StrP.keeps hx
   replace I2:=I2.ext WrP.keeps hx
   replace C3:=C3.ext IntP.keeps hx
   have hX:=hx
   go_wp2_with fail
   refine (c_laws_heldNodeS lo hi _ (xs[i]).redex.nodes (J+1) _ N1 (by omega) (by omega)).mono ?_
   rintro e y0 ⟨rfl,hy0⟩
   replace r0:=hy0.keep r0
   replace r1:=hy0.keep r1
   replace r2:=hy0.keep r2
   replace r3:=hy0.keep r3
   replace r4:=hy0.keep r4
   replace r5:=hy0.keep r5
   replace r6:=hy0.keep r6
   replace r7:=hy0.keep r7
   replace r8:=hy0.keep r8
   replace r9:=hy0.keep r9
   replace r10:=hy0.keep r10
   replace r11:=hy0.keep r11
   replace r12:=hy0.keep r12
   replace N1:=N1.ext NdP.keeps hy0
   replace S1:=S1.ext IntP.keeps hy0
   replace O1:=O1.ext StrP.keeps hy0
   replace I1:=I1.ext WrP.keeps hy0
   replace N2:=N2.ext NdP.keeps hy0
   replace S2:=S2.ext IntP.keeps hy0
   replace O2:=O2.ext StrP.keeps hy0
   replace I2:=I2.ext WrP.keeps hy0
   replace C3:=C3.ext IntP.keeps hy0
   replace hX:=hX.trans hy0
   go_wp2_with fail
   refine (c_laws_heldIntS lo hi _ (xs[i]).redex.sites (J+1+(cnL cNd (xs[i]).redex.nodes:Int)) _ S1 (by omega) (by omega)).mono ?_
   rintro e y1 ⟨rfl,hy1⟩
   replace r0:=hy1.keep r0
   replace r1:=hy1.keep r1
   replace r2:=hy1.keep r2
   replace r3:=hy1.keep r3
   replace r4:=hy1.keep r4
   replace r5:=hy1.keep r5
   replace r6:=hy1.keep r6
   replace r7:=hy1.keep r7
   replace r8:=hy1.keep r8
   replace r9:=hy1.keep r9
   replace r10:=hy1.keep r10
   replace r11:=hy1.keep r11
   replace r12:=hy1.keep r12
   replace N1:=N1.ext NdP.keeps hy1
   replace S1:=S1.ext IntP.keeps hy1
   replace O1:=O1.ext StrP.keeps hy1
   replace I1:=I1.ext WrP.keeps hy1
   replace N2:=N2.ext NdP.keeps hy1
   replace S2:=S2.ext IntP.keeps hy1
   replace O2:=O2.ext StrP.keeps hy1
   replace I2:=I2.ext WrP.keeps hy1
   replace C3:=C3.ext IntP.keeps hy1
   replace hX:=hX.trans hy1
   go_wp2_with fail
   refine (c_laws_heldStringS lo hi _ (xs[i]).redex.outer (J+1+(cnL cNd (xs[i]).redex.nodes:Int)+(cnL c1 (xs[i]).redex.sites:Int)+1) _ O1 (by omega) (by omega)).mono ?_
   rintro e y2 ⟨rfl,hy2⟩
   replace r0:=hy2.keep r0
   replace r1:=hy2.keep r1
   replace r2:=hy2.keep r2
   replace r3:=hy2.keep r3
   replace r4:=hy2.keep r4
   replace r5:=hy2.keep r5
   replace r6:=hy2.keep r6
   replace r7:=hy2.keep r7
   replace r8:=hy2.keep r8
   replace r9:=hy2.keep r9
   replace r10:=hy2.keep r10
   replace r11:=hy2.keep r11
   replace r12:=hy2.keep r12
   replace N1:=N1.ext NdP.keeps hy2
   replace S1:=S1.ext IntP.keeps hy2
   replace O1:=O1.ext StrP.keeps hy2
   replace I1:=I1.ext WrP.keeps hy2
   replace N2:=N2.ext NdP.keeps hy2
   replace S2:=S2.ext IntP.keeps hy2
   replace O2:=O2.ext StrP.keeps hy2
   replace I2:=I2.ext WrP.keeps hy2
   replace C3:=C3.ext IntP.keeps hy2
   replace hX:=hX.trans hy2
   go_wp2_with fail
   refine (c_laws_heldWireS lo hi _ (xs[i]).redex.inner (J+1+(cnL cNd (xs[i]).redex.nodes:Int)+(cnL c1 (xs[i]).redex.sites:Int)+1+(cnL c1 (xs[i]).redex.outer:Int)) _ I1 (by omega) (by omega)).mono ?_
   rintro e y3 ⟨rfl,hy3⟩
   replace r0:=hy3.keep r0
   replace r1:=hy3.keep r1
   replace r2:=hy3.keep r2
   replace r3:=hy3.keep r3
   replace r4:=hy3.keep r4
   replace r5:=hy3.keep r5
   replace r6:=hy3.keep r6
   replace r7:=hy3.keep r7
   replace r8:=hy3.keep r8
   replace r9:=hy3.keep r9
   replace r10:=hy3.keep r10
   replace r11:=hy3.keep r11
   replace r12:=hy3.keep r12
   replace N1:=N1.ext NdP.keeps hy3
   replace S1:=S1.ext IntP.keeps hy3
   replace O1:=O1.ext StrP.keeps hy3
   replace I1:=I1.ext WrP.keeps hy3
   replace N2:=N2.ext NdP.keeps hy3
   replace S2:=S2.ext IntP.keeps hy3
   replace O2:=O2.ext StrP.keeps hy3
   replace I2:=I2.ext WrP.keeps hy3
   replace C3:=C3.ext IntP.keeps hy3
   replace hX:=hX.trans hy3
   go_wp2_with fail
   refine (c_laws_heldNodeS lo hi _ (xs[i]).reactum.nodes (J+1+(cnL cNd (xs[i]).redex.nodes:Int)+(cnL c1 (xs[i]).redex.sites:Int)+1+(cnL c1 (xs[i]).redex.outer:Int)+(cnL c2 (xs[i]).redex.inner:Int)+1) _ N2 (by omega) (by omega)).mono ?_
   rintro e y4 ⟨rfl,hy4⟩
   replace r0:=hy4.keep r0
   replace r1:=hy4.keep r1
   replace r2:=hy4.keep r2
   replace r3:=hy4.keep r3
   replace r4:=hy4.keep r4
   replace r5:=hy4.keep r5
   replace r6:=hy4.keep r6
   replace r7:=hy4.keep r7
   replace r8:=hy4.keep r8
   replace r9:=hy4.keep r9
   replace r10:=hy4.keep r10
   replace r11:=hy4.keep r11
   replace r12:=hy4.keep r12
   replace N1:=N1.ext NdP.keeps hy4
   replace S1:=S1.ext IntP.keeps hy4
   replace O1:=O1.ext StrP.keeps hy4
   replace I1:=I1.ext WrP.keeps hy4
   replace N2:=N2.ext NdP.keeps hy4
   replace S2:=S2.ext IntP.keeps hy4
   replace O2:=O2.ext StrP.keeps hy4
   replace I2:=I2.ext WrP.keeps hy4
   replace C3:=C3.ext IntP.keeps hy4
   replace hX:=hX.trans hy4
   go_wp2_with fail
   refine (c_laws_heldIntS lo hi _ (xs[i]).reactum.sites (J+1+(cnL cNd (xs[i]).redex.nodes:Int)+(cnL c1 (xs[i]).redex.sites:Int)+1+(cnL c1 (xs[i]).redex.outer:Int)+(cnL c2 (xs[i]).redex.inner:Int)+1+(cnL cNd (xs[i]).reactum.nodes:Int)) _ S2 (by omega) (by omega)).mono ?_
   rintro e y5 ⟨rfl,hy5⟩
   replace r0:=hy5.keep r0
   replace r1:=hy5.keep r1
   replace r2:=hy5.keep r2
   replace r3:=hy5.keep r3
   replace r4:=hy5.keep r4
   replace r5:=hy5.keep r5
   replace r6:=hy5.keep r6
   replace r7:=hy5.keep r7
   replace r8:=hy5.keep r8
   replace r9:=hy5.keep r9
   replace r10:=hy5.keep r10
   replace r11:=hy5.keep r11
   replace r12:=hy5.keep r12
   replace N1:=N1.ext NdP.keeps hy5
   replace S1:=S1.ext IntP.keeps hy5
   replace O1:=O1.ext StrP.keeps hy5
   replace I1:=I1.ext WrP.keeps hy5
   replace N2:=N2.ext NdP.keeps hy5
   replace S2:=S2.ext IntP.keeps hy5
   replace O2:=O2.ext StrP.keeps hy5
   replace I2:=I2.ext WrP.keeps hy5
   replace C3:=C3.ext IntP.keeps hy5
   replace hX:=hX.trans hy5
   go_wp2_with fail
   refine (c_laws_heldStringS lo hi _ (xs[i]).reactum.outer (J+1+(cnL cNd (xs[i]).redex.nodes:Int)+(cnL c1 (xs[i]).redex.sites:Int)+1+(cnL c1 (xs[i]).redex.outer:Int)+(cnL c2 (xs[i]).redex.inner:Int)+1+(cnL cNd (xs[i]).reactum.nodes:Int)+(cnL c1 (xs[i]).reactum.sites:Int)+1) _ O2 (by omega) (by omega)).mono ?_
   rintro e y6 ⟨rfl,hy6⟩
   replace r0:=hy6.keep r0
   replace r1:=hy6.keep r1
   replace r2:=hy6.keep r2
   replace r3:=hy6.keep r3
   replace r4:=hy6.keep r4
   replace r5:=hy6.keep r5
   replace r6:=hy6.keep r6
   replace r7:=hy6.keep r7
   replace r8:=hy6.keep r8
   replace r9:=hy6.keep r9
   replace r10:=hy6.keep r10
   replace r11:=hy6.keep r11
   replace r12:=hy6.keep r12
   replace N1:=N1.ext NdP.keeps hy6
   replace S1:=S1.ext IntP.keeps hy6
   replace O1:=O1.ext StrP.keeps hy6
   replace I1:=I1.ext WrP.keeps hy6
   replace N2:=N2.ext NdP.keeps hy6
   replace S2:=S2.ext IntP.keeps hy6
   replace O2:=O2.ext StrP.keeps hy6
   replace I2:=I2.ext WrP.keeps hy6
   replace C3:=C3.ext IntP.keeps hy6
   replace hX:=hX.trans hy6
   go_wp2_with fail
   refine (c_laws_heldWireS lo hi _ (xs[i]).reactum.inner (J+1+(cnL cNd (xs[i]).redex.nodes:Int)+(cnL c1 (xs[i]).redex.sites:Int)+1+(cnL c1 (xs[i]).redex.outer:Int)+(cnL c2 (xs[i]).redex.inner:Int)+1+(cnL cNd (xs[i]).reactum.nodes:Int)+(cnL c1 (xs[i]).reactum.sites:Int)+1+(cnL c1 (xs[i]).reactum.outer:Int)) _ I2 (by omega) (by omega)).mono ?_
   rintro e y7 ⟨rfl,hy7⟩
   replace r0:=hy7.keep r0
   replace r1:=hy7.keep r1
   replace r2:=hy7.keep r2
   replace r3:=hy7.keep r3
   replace r4:=hy7.keep r4
   replace r5:=hy7.keep r5
   replace r6:=hy7.keep r6
   replace r7:=hy7.keep r7
   replace r8:=hy7.keep r8
   replace r9:=hy7.keep r9
   replace r10:=hy7.keep r10
   replace r11:=hy7.keep r11
   replace r12:=hy7.keep r12
   replace N1:=N1.ext NdP.keeps hy7
   replace S1:=S1.ext IntP.keeps hy7
   replace O1:=O1.ext StrP.keeps hy7
   replace I1:=I1.ext WrP.keeps hy7
   replace N2:=N2.ext NdP.keeps hy7
   replace S2:=S2.ext IntP.keeps hy7
   replace O2:=O2.ext StrP.keeps hy7
   replace I2:=I2.ext WrP.keeps hy7
   replace C3:=C3.ext IntP.keeps hy7
   replace hX:=hX.trans hy7
   go_wp2_with fail
   refine (c_laws_heldIntS lo hi _ (xs[i]).copies (J+1+(cnL cNd (xs[i]).redex.nodes:Int)+(cnL c1 (xs[i]).redex.sites:Int)+1+(cnL c1 (xs[i]).redex.outer:Int)+(cnL c2 (xs[i]).redex.inner:Int)+1+(cnL cNd (xs[i]).reactum.nodes:Int)+(cnL c1 (xs[i]).reactum.sites:Int)+1+(cnL c1 (xs[i]).reactum.outer:Int)+(cnL c2 (xs[i]).reactum.inner:Int)) _ C3 (by omega) (by omega)).mono ?_
   rintro e y8 ⟨rfl,hy8⟩
   replace r0:=hy8.keep r0
   replace r1:=hy8.keep r1
   replace r2:=hy8.keep r2
   replace r3:=hy8.keep r3
   replace r4:=hy8.keep r4
   replace r5:=hy8.keep r5
   replace r6:=hy8.keep r6
   replace r7:=hy8.keep r7
   replace r8:=hy8.keep r8
   replace r9:=hy8.keep r9
   replace r10:=hy8.keep r10
   replace r11:=hy8.keep r11
   replace r12:=hy8.keep r12
   replace N1:=N1.ext NdP.keeps hy8
   replace S1:=S1.ext IntP.keeps hy8
   replace O1:=O1.ext StrP.keeps hy8
   replace I1:=I1.ext WrP.keeps hy8
   replace N2:=N2.ext NdP.keeps hy8
   replace S2:=S2.ext IntP.keeps hy8
   replace O2:=O2.ext StrP.keeps hy8
   replace I2:=I2.ext WrP.keeps hy8
   replace C3:=C3.ext IntP.keeps hy8
   replace hX:=hX.trans hy8
   go_wp2_with fail
   go_roundw
   case rel=>exact ⟨i+1,_,rfl,rfl,by omega,(by have hK:=HK.out;have hct:=HC.out;have hcx:cRulR xs[i]=((cnL cNd (xs[i]).redex.nodes+cnL c1 (xs[i]).redex.sites+cnL c1 (xs[i]).redex.outer+cnL c2 (xs[i]).redex.inner+2)+(cnL cNd (xs[i]).reactum.nodes+cnL c1 (xs[i]).reactum.sites+cnL c1 (xs[i]).reactum.outer+cnL c2 (xs[i]).reactum.inner+2)+cnL c1 (xs[i]).copies):=rfl;omega),xw⟩
   all_goals (simp only [intOf];omega)
  ·have e:i=xs.length:=by omega
   subst e
   have he:=cnL_all cRulR xs
   go_wp2
   go_ret
   exact ⟨ret_int (by omega),hx⟩
set_option maxRecDepth 100000 in
set_option maxHeartbeats 1600000 in
theorem c_laws_heldRuntime (lo hi:Nat) (cs:List Value) (x:Rnt) (k:Int) (w:World) (h:RntP lo hi w cs (mkRnt k x)) (hk:0≤k) (hk1:k+cRnt x≤1000000000) :
 Calls Tryz.prog 40 #[.agg cs.toArray,.int .i64 k] w fun e w'=>e=.returned (.int .i64 (k+cRnt x))∧Ext w w':=by
 obtain ⟨v0,cs1,v6,v7,cs8,rfl,E0,E1,E6,E7,E8,ec⟩:=h
 have hcx:cRnt x=cnL c3 x.sig+cSrt x.sort+cnL cRulR x.rules+cnL c1 x.hosts+cBig x.agent:=rfl
 have hkb:k+((cnL c3 x.sig+cSrt x.sort+cnL cRulR x.rules+cnL c1 x.hosts+cBig x.agent:Nat):Int)≤1000000000:=by omega
 clear hk1
 have HCX:=Lib.hid hcx
 clear hcx
 obtain ⟨s0,s1,s2,s3,s4,rfl,_⟩:=id E1
 obtain ⟨yy1,yy2,yy4,yy5,rfl,_⟩:=id E8
 change Calls Tryz.prog 40 #[.agg #[v0,s0,s1,s2,s3,s4,v6,v7,.int .i64 x.agent.roots,yy1,yy2,.int .i64 x.agent.edges,yy4,yy5,.int .i64 x.count],.int .i64 k] w _
 obtain ⟨W0,hW0,hbx,hx0,hz⟩:=box_facts w [v0,s0,s1,s2,s3,s4,v6,v7,.int .i64 x.agent.roots,yy1,yy2,.int .i64 x.agent.edges,yy4,yy5,.int .i64 x.count] 46
 have p0:=(hbx 0 _ rfl).1
 have p1:=(hbx 1 _ rfl).1
 have p2:=(hbx 2 _ rfl).1
 have p3:=(hbx 3 _ rfl).1
 have p4:=(hbx 4 _ rfl).1
 have p5:=(hbx 5 _ rfl).1
 have p6:=(hbx 6 _ rfl).1
 have p7:=(hbx 7 _ rfl).1
 have p8:=(hbx 8 _ rfl).1
 have p9:=(hbx 9 _ rfl).1
 have p10:=(hbx 10 _ rfl).1
 have p11:=(hbx 11 _ rfl).1
 have p12:=(hbx 12 _ rfl).1
 have p13:=(hbx 13 _ rfl).1
 have p14:=(hbx 14 _ rfl).1
 clear hz hbx
 replace E0:=E0.ext CtlP.keeps hx0
 replace E1:=SrtP.keeps _ _ _ _ _ _ (Same.ext hx0) E1
 replace E6:=E6.ext RulP.keeps hx0
 replace E7:=E7.ext StrP.keeps hx0
 replace E8:=BigP.keeps _ _ _ _ _ _ (Same.ext hx0) E8
 have hX:=hx0
 go_enter Tryz.func40,Tryz.ntmps40
 go_wp2_with fail
 refine (c_laws_heldControlS lo hi _ x.sig (k) _ E0 (by omega) (by omega)).mono ?_
 rintro e y0 ⟨rfl,hy0⟩
 replace p0:=hy0.keep p0
 replace p1:=hy0.keep p1
 replace p2:=hy0.keep p2
 replace p3:=hy0.keep p3
 replace p4:=hy0.keep p4
 replace p5:=hy0.keep p5
 replace p6:=hy0.keep p6
 replace p7:=hy0.keep p7
 replace p8:=hy0.keep p8
 replace p9:=hy0.keep p9
 replace p10:=hy0.keep p10
 replace p11:=hy0.keep p11
 replace p12:=hy0.keep p12
 replace p13:=hy0.keep p13
 replace p14:=hy0.keep p14
 replace E0:=E0.ext CtlP.keeps hy0
 replace E1:=SrtP.keeps _ _ _ _ _ _ (Same.ext hy0) E1
 replace E6:=E6.ext RulP.keeps hy0
 replace E7:=E7.ext StrP.keeps hy0
 replace E8:=BigP.keeps _ _ _ _ _ _ (Same.ext hy0) E8
 replace hX:=hX.trans hy0
 go_wp2_with fail
 refine (c_laws_heldSorting lo hi [s0,s1,s2,s3,s4] x.sort (k+((cnL c3 x.sig:Nat):Int)) _ E1 (by omega) (by omega)).mono ?_
 rintro e y1 ⟨rfl,hy1⟩
 replace p0:=hy1.keep p0
 replace p1:=hy1.keep p1
 replace p2:=hy1.keep p2
 replace p3:=hy1.keep p3
 replace p4:=hy1.keep p4
 replace p5:=hy1.keep p5
 replace p6:=hy1.keep p6
 replace p7:=hy1.keep p7
 replace p8:=hy1.keep p8
 replace p9:=hy1.keep p9
 replace p10:=hy1.keep p10
 replace p11:=hy1.keep p11
 replace p12:=hy1.keep p12
 replace p13:=hy1.keep p13
 replace p14:=hy1.keep p14
 replace E0:=E0.ext CtlP.keeps hy1
 replace E1:=SrtP.keeps _ _ _ _ _ _ (Same.ext hy1) E1
 replace E6:=E6.ext RulP.keeps hy1
 replace E7:=E7.ext StrP.keeps hy1
 replace E8:=BigP.keeps _ _ _ _ _ _ (Same.ext hy1) E8
 replace hX:=hX.trans hy1
 go_wp2_with fail
 refine (c_laws_heldRuleS lo hi _ x.rules (k+((cnL c3 x.sig:Nat):Int)+((cSrt x.sort:Nat):Int)) _ E6 (by omega) (by omega)).mono ?_
 rintro e y2 ⟨rfl,hy2⟩
 replace p0:=hy2.keep p0
 replace p1:=hy2.keep p1
 replace p2:=hy2.keep p2
 replace p3:=hy2.keep p3
 replace p4:=hy2.keep p4
 replace p5:=hy2.keep p5
 replace p6:=hy2.keep p6
 replace p7:=hy2.keep p7
 replace p8:=hy2.keep p8
 replace p9:=hy2.keep p9
 replace p10:=hy2.keep p10
 replace p11:=hy2.keep p11
 replace p12:=hy2.keep p12
 replace p13:=hy2.keep p13
 replace p14:=hy2.keep p14
 replace E0:=E0.ext CtlP.keeps hy2
 replace E1:=SrtP.keeps _ _ _ _ _ _ (Same.ext hy2) E1
 replace E6:=E6.ext RulP.keeps hy2
 replace E7:=E7.ext StrP.keeps hy2
 replace E8:=BigP.keeps _ _ _ _ _ _ (Same.ext hy2) E8
 replace hX:=hX.trans hy2
 go_wp2_with fail
 refine (c_laws_heldStringS lo hi _ x.hosts (k+((cnL c3 x.sig:Nat):Int)+((cSrt x.sort:Nat):Int)+((cnL cRulR x.rules:Nat):Int)) _ E7 (by omega) (by omega)).mono ?_
 rintro e y3 ⟨rfl,hy3⟩
 replace p0:=hy3.keep p0
 replace p1:=hy3.keep p1
 replace p2:=hy3.keep p2
 replace p3:=hy3.keep p3
 replace p4:=hy3.keep p4
 replace p5:=hy3.keep p5
 replace p6:=hy3.keep p6
 replace p7:=hy3.keep p7
 replace p8:=hy3.keep p8
 replace p9:=hy3.keep p9
 replace p10:=hy3.keep p10
 replace p11:=hy3.keep p11
 replace p12:=hy3.keep p12
 replace p13:=hy3.keep p13
 replace p14:=hy3.keep p14
 replace E0:=E0.ext CtlP.keeps hy3
 replace E1:=SrtP.keeps _ _ _ _ _ _ (Same.ext hy3) E1
 replace E6:=E6.ext RulP.keeps hy3
 replace E7:=E7.ext StrP.keeps hy3
 replace E8:=BigP.keeps _ _ _ _ _ _ (Same.ext hy3) E8
 replace hX:=hX.trans hy3
 go_wp2_with fail
 refine (c_laws_heldBigraph lo hi [.int .i64 x.agent.roots,yy1,yy2,.int .i64 x.agent.edges,yy4,yy5] x.agent (k+((cnL c3 x.sig:Nat):Int)+((cSrt x.sort:Nat):Int)+((cnL cRulR x.rules:Nat):Int)+((cnL c1 x.hosts:Nat):Int)) _ E8 (by omega) (by omega)).mono ?_
 rintro e y4 ⟨rfl,hy4⟩
 replace p0:=hy4.keep p0
 replace p1:=hy4.keep p1
 replace p2:=hy4.keep p2
 replace p3:=hy4.keep p3
 replace p4:=hy4.keep p4
 replace p5:=hy4.keep p5
 replace p6:=hy4.keep p6
 replace p7:=hy4.keep p7
 replace p8:=hy4.keep p8
 replace p9:=hy4.keep p9
 replace p10:=hy4.keep p10
 replace p11:=hy4.keep p11
 replace p12:=hy4.keep p12
 replace p13:=hy4.keep p13
 replace p14:=hy4.keep p14
 replace E0:=E0.ext CtlP.keeps hy4
 replace E1:=SrtP.keeps _ _ _ _ _ _ (Same.ext hy4) E1
 replace E6:=E6.ext RulP.keeps hy4
 replace E7:=E7.ext StrP.keeps hy4
 replace E8:=BigP.keeps _ _ _ _ _ _ (Same.ext hy4) E8
 replace hX:=hX.trans hy4
 go_wp2
 go_ret
 exact ⟨ret_int (by have hcx:=HCX.out;omega),xw⟩
end Go.Proofs.YtccjepndhlobpaaGreatDoor
