/-
  Walks: what an argument weighs.
-/
import Derived.Test.YtccjepndhlobpaaGreatDoorRows
import Derived.Test.YtccjepndhlobpaaGreatDoorShelf
import Derived.WalkSpells
import Derived.WalkLawsBesides
import Derived.Test.YtccjepndhlobpaaGreatDoorB0
import Derived.Test.YtccjepndhlobpaaGreatDoorC1
import Derived.Deep.DeepMust
namespace Go.Proofs.YtccjepndhlobpaaGreatDoor
open Go.RowKit
set_option linter.unusedVariables false
set_option linter.unusedSimpArgs false

theorem szR_pos {n:Nat} {l:Int} (h:(n:Int)≤l):szR n l=l - n:=if_pos h
theorem szR_neg {n:Nat} {l:Int} (h:¬(n:Int)≤l):szR n l = -1:=if_neg h
theorem szR_le {n:Nat} {l:Int} (h:0≤l) : -1≤szR n l∧szR n l≤l:=by unfold szR;split <;> omega
attribute [local irreducible] szR

theorem c_laws_szIntS (lo hi:Nat) (v:Value) (xs:List Int) (left:Int) (w:World) (h:SlV 1 IntP lo hi w v xs) (hl:0≤left) (hl1:left≤1048576) :
 Calls Tryz.prog 69 #[v,.int .i64 left] w fun e w'=>e=.returned (.int .i64 (szR xs.length left))∧Ext w w':=by
 obtain ⟨a,k,rfl,h1,h2,h3,h4⟩:=h
 unfold maxLen at h2
 by_cases hn:(xs.length:Int)≤left
 ·rw [szR_pos hn]
  go_enter Tryz.func69,Tryz.ntmps69
  go_wp2
  go_ret
  exact ⟨rfl,xw⟩
 ·rw [szR_neg hn]
  go_enter Tryz.func69,Tryz.ntmps69
  go_wp2
  go_ret
  exact ⟨rfl,xw⟩
theorem c_laws_szIntA2S (lo hi:Nat) (v:Value) (xs:List (Int × Int)) (left:Int) (w:World) (h:SlV 2 PairP lo hi w v xs) (hl:0≤left) (hl1:left≤1048576) :
 Calls Tryz.prog 71 #[v,.int .i64 left] w fun e w'=>e=.returned (.int .i64 (szR xs.length left))∧Ext w w':=by
 obtain ⟨a,k,rfl,h1,h2,h3,h4⟩:=h
 unfold maxLen at h2
 by_cases hn:(xs.length:Int)≤left
 ·rw [szR_pos hn]
  go_enter Tryz.func71,Tryz.ntmps71
  go_wp2
  go_ret
  exact ⟨rfl,xw⟩
 ·rw [szR_neg hn]
  go_enter Tryz.func71,Tryz.ntmps71
  go_wp2
  go_ret
  exact ⟨rfl,xw⟩
theorem c_laws_szControl (lo hi:Nat) (cs:List Value) (x:Ctl) (left:Int) (w:World) (h:CtlP lo hi w cs x) (hl:0≤left) (hl1:left≤1048576) :
 Calls Tryz.prog 68 #[.agg cs.toArray,.int .i64 left] w fun e w'=>e=.returned (.int .i64 (szR (wtCtl x) left))∧Ext w w':=by
 obtain ⟨rfl,e1,e2,e3⟩:=h
 unfold maxLen at e1
 have hw:wtCtl x=x.name.size:=rfl
 by_cases hn:(x.name.size:Int)≤left
 ·rw [hw,szR_pos hn]
  go_enter Tryz.func68,Tryz.ntmps68
  go_wp2
  go_ret
  exact ⟨rfl,xw⟩
 ·rw [hw,szR_neg hn]
  go_enter Tryz.func68,Tryz.ntmps68
  go_wp2
  go_ret
  exact ⟨rfl,xw⟩
theorem c_laws_szWire (lo hi:Nat) (cs:List Value) (x:Wr) (left:Int) (w:World) (h:WrP lo hi w cs x) (hl:0≤left) (hl1:left≤1048576) :
 Calls Tryz.prog 147 #[.agg cs.toArray,.int .i64 left] w fun e w'=>e=.returned (.int .i64 (szR (wtWr x) left))∧Ext w w':=by
 obtain ⟨rfl,e1,e2⟩:=h
 unfold maxLen at e1
 have hw:wtWr x=x.name.size:=rfl
 by_cases hn:(x.name.size:Int)≤left
 ·rw [hw,szR_pos hn]
  go_enter Tryz.func147,Tryz.ntmps147
  go_wp2
  go_ret
  exact ⟨rfl,xw⟩
 ·rw [hw,szR_neg hn]
  go_enter Tryz.func147,Tryz.ntmps147
  go_wp2
  go_ret
  exact ⟨rfl,xw⟩
set_option maxRecDepth 100000 in
set_option maxHeartbeats 1600000 in
theorem c_laws_szControlS (lo hi:Nat) (v:Value) (xs:List Ctl) (left:Int) (w:World) (h:SlV 3 CtlP lo hi w v xs) (hl:0≤left) (hl1:left≤1048576) :
 Calls Tryz.prog 22 #[v,.int .i64 left] w fun e w'=>e=.returned (.int .i64 (szR (wtL wtCtl xs) left))∧Ext w w':=by
 obtain ⟨a,k,rfl,h1,h2,h3,h4⟩:=h
 unfold maxLen at h2
 by_cases hn:(xs.length:Int)≤left
 ·go_enter Tryz.func22,Tryz.ntmps22
  go_wp2
  go_loopw [1,5] (fun c a' wr=>∃i:Nat,c=.int .i64 (left - xs.length - (((xs.take i).map wtCtl).sum:Nat))∧a'=.int .i64 i∧i≤xs.length∧(0:Int)≤left - xs.length - (((xs.take i).map wtCtl).sum:Nat)∧Ext w wr) (fun _ a' _=>xs.length - (intOf a').toNat)
  case atStart=>exact ⟨0,by simp,rfl,Nat.zero_le _,by simp;omega,xw⟩
  case round=>
   obtain ⟨i,rfl,rfl,hi',hp,hx⟩:=hrel
   by_cases hlt:i<xs.length
   ·rcases h4 with h4|⟨b,o,rfl,hb1,hb2,h4⟩
    ·subst h4;simp at hlt
    ·obtain ⟨cs,hcl,hP,hc⟩:=h4 i hlt
     have hst:((xs.take (i+1)).map wtCtl).sum=((xs.take i).map wtCtl).sum+wtCtl xs[i]:=wtL_take wtCtl xs i hlt
     have hle:=sum_take_le wtCtl xs (i+1)
     have HP:=CtlP.keeps _ _ _ _ _ _ (Same.ext hx) hP
     have HP0:=HP;obtain ⟨rfl,e1,e2,e3⟩:=hP
     have q0:=hx.keep (hc 0 _ rfl)
     have q1:=hx.keep (hc 1 _ rfl)
     have q2:=hx.keep (hc 2 _ rfl)
     rw [Nat.add_zero] at q0
     generalize hS:((xs.take i).map wtCtl).sum=S at hp hst ⊢
     generalize hS1:((xs.take (i+1)).map wtCtl).sum=S1 at hst hle
     have hw:wtL wtCtl xs=xs.length+(xs.map wtCtl).sum:=rfl
     clear h4 hc
     by_cases hz:((wtCtl xs[i]:Nat):Int)≤left - xs.length - (S:Nat)
     ·have hR:=szR_pos hz
      go_wp2_with (go_at_call 68;refine (c_laws_szControl lo hi _ _ _ _ (HP)  (by omega) (by omega)).mono ?_;rintro e w1 ⟨rfl,hb1⟩;rw [hR])
      go_roundw
      case rel=>exact ⟨i+1,by rw [hS1,hst];congr 1;omega,rfl,by omega,by rw [hS1];omega,xw⟩
      ·simp only [intOf];omega
     ·have hR:=szR_neg hz
      go_wp2_with (go_at_call 68;refine (c_laws_szControl lo hi _ _ _ _ (HP)  (by omega) (by omega)).mono ?_;rintro e w1 ⟨rfl,hb1⟩;rw [hR])
      go_ret
      exact ⟨ret_int (by rw [szR_neg (by omega)]),xw⟩
   ·have hall:=wtL_all wtCtl xs i (by omega)
    have hw:wtL wtCtl xs=xs.length+(xs.map wtCtl).sum:=rfl
    rw [hall] at hp ⊢
    go_wp2
    go_ret
    exact ⟨ret_int (by rw [szR_pos (by omega)];omega),xw⟩
 ·go_enter Tryz.func22,Tryz.ntmps22
  go_wp2
  go_ret
  have hw:wtL wtCtl xs=xs.length+(xs.map wtCtl).sum:=rfl
  exact ⟨ret_int (by rw [szR_neg (by omega)]),xw⟩
set_option maxRecDepth 100000 in
set_option maxHeartbeats 1600000 in
theorem c_laws_szWireS (lo hi:Nat) (v:Value) (xs:List Wr) (left:Int) (w:World) (h:SlV 2 WrP lo hi w v xs) (hl:0≤left) (hl1:left≤1048576) :
 Calls Tryz.prog 100 #[v,.int .i64 left] w fun e w'=>e=.returned (.int .i64 (szR (wtL wtWr xs) left))∧Ext w w':=by
 obtain ⟨a,k,rfl,h1,h2,h3,h4⟩:=h
 unfold maxLen at h2
 by_cases hn:(xs.length:Int)≤left
 ·go_enter Tryz.func100,Tryz.ntmps100
  go_wp2
  go_loopw [1,5] (fun c a' wr=>∃i:Nat,c=.int .i64 (left - xs.length - (((xs.take i).map wtWr).sum:Nat))∧a'=.int .i64 i∧i≤xs.length∧(0:Int)≤left - xs.length - (((xs.take i).map wtWr).sum:Nat)∧Ext w wr) (fun _ a' _=>xs.length - (intOf a').toNat)
  case atStart=>exact ⟨0,by simp,rfl,Nat.zero_le _,by simp;omega,xw⟩
  case round=>
   obtain ⟨i,rfl,rfl,hi',hp,hx⟩:=hrel
   by_cases hlt:i<xs.length
   ·rcases h4 with h4|⟨b,o,rfl,hb1,hb2,h4⟩
    ·subst h4;simp at hlt
    ·obtain ⟨cs,hcl,hP,hc⟩:=h4 i hlt
     have hst:((xs.take (i+1)).map wtWr).sum=((xs.take i).map wtWr).sum+wtWr xs[i]:=wtL_take wtWr xs i hlt
     have hle:=sum_take_le wtWr xs (i+1)
     have HP:=WrP.keeps _ _ _ _ _ _ (Same.ext hx) hP
     have HP0:=HP;obtain ⟨rfl,e1,e2⟩:=hP
     have q0:=hx.keep (hc 0 _ rfl)
     have q1:=hx.keep (hc 1 _ rfl)
     rw [Nat.add_zero] at q0
     generalize hS:((xs.take i).map wtWr).sum=S at hp hst ⊢
     generalize hS1:((xs.take (i+1)).map wtWr).sum=S1 at hst hle
     have hw:wtL wtWr xs=xs.length+(xs.map wtWr).sum:=rfl
     clear h4 hc
     by_cases hz:((wtWr xs[i]:Nat):Int)≤left - xs.length - (S:Nat)
     ·have hR:=szR_pos hz
      go_wp2_with (go_at_call 147;refine (c_laws_szWire lo hi _ _ _ _ (HP)  (by omega) (by omega)).mono ?_;rintro e w1 ⟨rfl,hb1⟩;rw [hR])
      go_roundw
      case rel=>exact ⟨i+1,by rw [hS1,hst];congr 1;omega,rfl,by omega,by rw [hS1];omega,xw⟩
      ·simp only [intOf];omega
     ·have hR:=szR_neg hz
      go_wp2_with (go_at_call 147;refine (c_laws_szWire lo hi _ _ _ _ (HP)  (by omega) (by omega)).mono ?_;rintro e w1 ⟨rfl,hb1⟩;rw [hR])
      go_ret
      exact ⟨ret_int (by rw [szR_neg (by omega)]),xw⟩
   ·have hall:=wtL_all wtWr xs i (by omega)
    have hw:wtL wtWr xs=xs.length+(xs.map wtWr).sum:=rfl
    rw [hall] at hp ⊢
    go_wp2
    go_ret
    exact ⟨ret_int (by rw [szR_pos (by omega)];omega),xw⟩
 ·go_enter Tryz.func100,Tryz.ntmps100
  go_wp2
  go_ret
  have hw:wtL wtWr xs=xs.length+(xs.map wtWr).sum:=rfl
  exact ⟨ret_int (by rw [szR_neg (by omega)]),xw⟩
set_option maxRecDepth 100000 in
set_option maxHeartbeats 1600000 in
theorem c_laws_szStringS (lo hi:Nat) (v:Value) (xs:List ByteArray) (left:Int) (w:World) (h:SlV 1 StrP lo hi w v xs) (hl:0≤left) (hl1:left≤1048576) :
 Calls Tryz.prog 25 #[v,.int .i64 left] w fun e w'=>e=.returned (.int .i64 (szR (wtL wtStr xs) left))∧Ext w w':=by
 obtain ⟨a,k,rfl,h1,h2,h3,h4⟩:=h
 unfold maxLen at h2
 by_cases hn:(xs.length:Int)≤left
 ·go_enter Tryz.func25,Tryz.ntmps25
  go_wp2
  go_loopw [1,5] (fun c a' wr=>∃i:Nat,c=.int .i64 (left - xs.length - (((xs.take i).map wtStr).sum:Nat))∧a'=.int .i64 i∧i≤xs.length∧(0:Int)≤left - xs.length - (((xs.take i).map wtStr).sum:Nat)∧Ext w wr) (fun _ a' _=>xs.length - (intOf a').toNat)
  case atStart=>exact ⟨0,by simp,rfl,Nat.zero_le _,by simp;omega,xw⟩
  case round=>
   obtain ⟨i,rfl,rfl,hi',hp,hx⟩:=hrel
   by_cases hlt:i<xs.length
   ·rcases h4 with h4|⟨b,o,rfl,hb1,hb2,h4⟩
    ·subst h4;simp at hlt
    ·obtain ⟨cs,hcl,hP,hc⟩:=h4 i hlt
     have hst:((xs.take (i+1)).map wtStr).sum=((xs.take i).map wtStr).sum+(xs[i]).size:=wtL_take wtStr xs i hlt
     have hle:=sum_take_le wtStr xs (i+1)
     have HP:=StrP.keeps _ _ _ _ _ _ (Same.ext hx) hP
     obtain ⟨rfl,e1⟩:=hP
     unfold maxLen at e1
     have q0:=hx.keep (hc 0 _ rfl)
     rw [Nat.mul_one,Nat.add_zero] at q0
     generalize hS:((xs.take i).map wtStr).sum=S at hp hst ⊢
     generalize hS1:((xs.take (i+1)).map wtStr).sum=S1 at hst hle
     have hw:wtL wtStr xs=xs.length+(xs.map wtStr).sum:=rfl
     clear h4 hc
     by_cases hz:(((xs[i]).size:Nat):Int)≤left - xs.length - (S:Nat)
     ·have hR:=szR_pos hz
      go_wp2_with fail
      go_roundw
      case rel=>exact ⟨i+1,by rw [hS1,hst];congr 1;omega,rfl,by omega,by rw [hS1];omega,xw⟩
      ·simp only [intOf];omega
     ·have hR:=szR_neg hz
      go_wp2_with fail
      go_ret
      exact ⟨ret_int (by rw [szR_neg (by omega)]),xw⟩
   ·have hall:=wtL_all wtStr xs i (by omega)
    have hw:wtL wtStr xs=xs.length+(xs.map wtStr).sum:=rfl
    rw [hall] at hp ⊢
    go_wp2
    go_ret
    exact ⟨ret_int (by rw [szR_pos (by omega)];omega),xw⟩
 ·go_enter Tryz.func25,Tryz.ntmps25
  go_wp2
  go_ret
  have hw:wtL wtStr xs=xs.length+(xs.map wtStr).sum:=rfl
  exact ⟨ret_int (by rw [szR_neg (by omega)]),xw⟩
set_option maxRecDepth 100000 in
set_option maxHeartbeats 1600000 in
theorem c_laws_szIntSS (lo hi:Nat) (v:Value) (xs:List (List Int)) (left:Int) (w:World) (h:SlV 1 RowP lo hi w v xs) (hl:0≤left) (hl1:left≤1048576) :
 Calls Tryz.prog 70 #[v,.int .i64 left] w fun e w'=>e=.returned (.int .i64 (szR (wtL wtRow xs) left))∧Ext w w':=by
 obtain ⟨a,k,rfl,h1,h2,h3,h4⟩:=h
 unfold maxLen at h2
 by_cases hn:(xs.length:Int)≤left
 ·go_enter Tryz.func70,Tryz.ntmps70
  go_wp2
  go_loopw [1,5] (fun c a' wr=>∃i:Nat,c=.int .i64 (left - xs.length - (((xs.take i).map wtRow).sum:Nat))∧a'=.int .i64 i∧i≤xs.length∧(0:Int)≤left - xs.length - (((xs.take i).map wtRow).sum:Nat)∧Ext w wr) (fun _ a' _=>xs.length - (intOf a').toNat)
  case atStart=>exact ⟨0,by simp,rfl,Nat.zero_le _,by simp;omega,xw⟩
  case round=>
   obtain ⟨i,rfl,rfl,hi',hp,hx⟩:=hrel
   by_cases hlt:i<xs.length
   ·rcases h4 with h4|⟨b,o,rfl,hb1,hb2,h4⟩
    ·subst h4;simp at hlt
    ·obtain ⟨cs,hcl,hP,hc⟩:=h4 i hlt
     have hst:((xs.take (i+1)).map wtRow).sum=((xs.take i).map wtRow).sum+(xs[i]).length:=wtL_take wtRow xs i hlt
     have hle:=sum_take_le wtRow xs (i+1)
     have HP:=RowP.keeps _ _ _ _ _ _ (Same.ext hx) hP
     have HP0:=HP;obtain ⟨rv,rfl,e1⟩:=hP
     have q0:=hx.keep (hc 0 _ rfl)
     rw [Nat.mul_one,Nat.add_zero] at q0
     generalize hS:((xs.take i).map wtRow).sum=S at hp hst ⊢
     generalize hS1:((xs.take (i+1)).map wtRow).sum=S1 at hst hle
     have hw:wtL wtRow xs=xs.length+(xs.map wtRow).sum:=rfl
     clear h4 hc
     by_cases hz:(((xs[i]).length:Nat):Int)≤left - xs.length - (S:Nat)
     ·have hR:=szR_pos hz
      go_wp2_with (go_at_call 69;refine (c_laws_szIntS lo hi _ _ _ _ (e1.keeps IntP.keeps (Same.ext hx)) (by omega) (by omega)).mono ?_;rintro e w1 ⟨rfl,hb1⟩;rw [hR])
      go_roundw
      case rel=>exact ⟨i+1,by rw [hS1,hst];congr 1;omega,rfl,by omega,by rw [hS1];omega,xw⟩
      ·simp only [intOf];omega
     ·have hR:=szR_neg hz
      go_wp2_with (go_at_call 69;refine (c_laws_szIntS lo hi _ _ _ _ (e1.keeps IntP.keeps (Same.ext hx)) (by omega) (by omega)).mono ?_;rintro e w1 ⟨rfl,hb1⟩;rw [hR])
      go_ret
      exact ⟨ret_int (by rw [szR_neg (by omega)]),xw⟩
   ·have hall:=wtL_all wtRow xs i (by omega)
    have hw:wtL wtRow xs=xs.length+(xs.map wtRow).sum:=rfl
    rw [hall] at hp ⊢
    go_wp2
    go_ret
    exact ⟨ret_int (by rw [szR_pos (by omega)];omega),xw⟩
 ·go_enter Tryz.func70,Tryz.ntmps70
  go_wp2
  go_ret
  have hw:wtL wtRow xs=xs.length+(xs.map wtRow).sum:=rfl
  exact ⟨ret_int (by rw [szR_neg (by omega)]),xw⟩
set_option maxRecDepth 100000 in
set_option maxHeartbeats 1600000 in
theorem c_laws_szNode (lo hi:Nat) (cs:List Value) (x:Nd) (left:Int) (w:World) (h:NdP lo hi w cs x) (hl:0≤left) (hl1:left≤1048576) :
 Calls Tryz.prog 146 #[.agg cs.toArray,.int .i64 left] w fun e w'=>e=.returned (.int .i64 (szR (wtNd x) left))∧Ext w w':=by
 obtain ⟨nv,rfl,e1,e2,e3⟩:=h
 have hw:wtNd x=x.links.length:=rfl
 obtain ⟨W0,hW0,hbx,hX,_⟩:=box_facts w [.int .i64 x.control,.int .i64 x.parent,nv] 179
 change Calls Tryz.prog 146 #[.agg #[.int .i64 x.control,.int .i64 x.parent,nv],.int .i64 left] w _
 have q0:=(hbx 0 _ rfl).1
 have q1:=(hbx 1 _ rfl).1
 have q2:=(hbx 2 _ rfl).1
 go_enter Tryz.func146,Tryz.ntmps146
 go_wp2_with fail
 refine (c_laws_szIntS lo hi _ _ (left) _ (e3.keeps IntP.keeps (Same.ext hX)) (by omega) (by omega)).mono ?_
 rintro e u0 ⟨rfl,hb⟩
 replace q0:=hb.keep q0
 replace q1:=hb.keep q1
 replace q2:=hb.keep q2
 replace hX:=hX.trans hb
 clear hb
 by_cases h0:((x.links.length:Nat):Int)≤left
 rotate_left
 ·rw [szR_neg (by omega)]
  go_wp2
  go_ret
  exact ⟨ret_int (by rw [szR_neg (by omega)]),hX⟩
 rw [szR_pos (by omega)]
 go_wp2
 go_ret
 exact ⟨ret_int (by rw [szR_pos (by omega)];omega),hX⟩
set_option maxRecDepth 100000 in
set_option maxHeartbeats 1600000 in
theorem c_laws_szNodeS (lo hi:Nat) (v:Value) (xs:List Nd) (left:Int) (w:World) (h:SlV 3 NdP lo hi w v xs) (hl:0≤left) (hl1:left≤1048576) :
 Calls Tryz.prog 99 #[v,.int .i64 left] w fun e w'=>e=.returned (.int .i64 (szR (wtL wtNd xs) left))∧Ext w w':=by
 obtain ⟨a,k,rfl,h1,h2,h3,h4⟩:=h
 unfold maxLen at h2
 by_cases hn:(xs.length:Int)≤left
 ·go_enter Tryz.func99,Tryz.ntmps99
  go_wp2
  go_loopw [1,5] (fun c a' wr=>∃i:Nat,c=.int .i64 (left - xs.length - (((xs.take i).map wtNd).sum:Nat))∧a'=.int .i64 i∧i≤xs.length∧(0:Int)≤left - xs.length - (((xs.take i).map wtNd).sum:Nat)∧Ext w wr) (fun _ a' _=>xs.length - (intOf a').toNat)
  case atStart=>exact ⟨0,by simp,rfl,Nat.zero_le _,by simp;omega,xw⟩
  case round=>
   obtain ⟨i,rfl,rfl,hi',hp,hx⟩:=hrel
   by_cases hlt:i<xs.length
   ·rcases h4 with h4|⟨b,o,rfl,hb1,hb2,h4⟩
    ·subst h4;simp at hlt
    ·obtain ⟨cs,hcl,hP,hc⟩:=h4 i hlt
     have hst:((xs.take (i+1)).map wtNd).sum=((xs.take i).map wtNd).sum+wtNd xs[i]:=wtL_take wtNd xs i hlt
     have hle:=sum_take_le wtNd xs (i+1)
     have HP:=NdP.keeps _ _ _ _ _ _ (Same.ext hx) hP
     have HP0:=HP;obtain ⟨nv,rfl,e1,e2,e3⟩:=hP
     have q0:=hx.keep (hc 0 _ rfl)
     have q1:=hx.keep (hc 1 _ rfl)
     have q2:=hx.keep (hc 2 _ rfl)
     rw [Nat.add_zero] at q0
     generalize hS:((xs.take i).map wtNd).sum=S at hp hst ⊢
     generalize hS1:((xs.take (i+1)).map wtNd).sum=S1 at hst hle
     have hw:wtL wtNd xs=xs.length+(xs.map wtNd).sum:=rfl
     clear h4 hc
     by_cases hz:((wtNd xs[i]:Nat):Int)≤left - xs.length - (S:Nat)
     ·have hR:=szR_pos hz
      go_wp2_with (go_at_call 146;refine (c_laws_szNode lo hi _ _ _ _ HP0 (by omega) (by omega)).mono ?_;rintro e w1 ⟨rfl,hb1⟩;rw [hR])
      go_roundw
      case rel=>exact ⟨i+1,by rw [hS1,hst];congr 1;omega,rfl,by omega,by rw [hS1];omega,xw⟩
      ·simp only [intOf];omega
     ·have hR:=szR_neg hz
      go_wp2_with (go_at_call 146;refine (c_laws_szNode lo hi _ _ _ _ HP0 (by omega) (by omega)).mono ?_;rintro e w1 ⟨rfl,hb1⟩;rw [hR])
      go_ret
      exact ⟨ret_int (by rw [szR_neg (by omega)]),xw⟩
   ·have hall:=wtL_all wtNd xs i (by omega)
    have hw:wtL wtNd xs=xs.length+(xs.map wtNd).sum:=rfl
    rw [hall] at hp ⊢
    go_wp2
    go_ret
    exact ⟨ret_int (by rw [szR_pos (by omega)];omega),xw⟩
 ·go_enter Tryz.func99,Tryz.ntmps99
  go_wp2
  go_ret
  have hw:wtL wtNd xs=xs.length+(xs.map wtNd).sum:=rfl
  exact ⟨ret_int (by rw [szR_neg (by omega)]),xw⟩
set_option maxRecDepth 100000 in
set_option maxHeartbeats 1600000 in
theorem c_laws_szBigraph (lo hi:Nat) (cs:List Value) (x:Big) (left:Int) (w:World) (h:BigP lo hi w cs x) (hl:0≤left) (hl1:left≤1048576) :
 Calls Tryz.prog 50 #[.agg cs.toArray,.int .i64 left] w fun e w'=>e=.returned (.int .i64 (szR (wtBig x) left))∧Ext w w':=by
 obtain ⟨v1,v2,v4,v5,rfl,e1,e2,eN,eS,eO,eI⟩:=h
 have hw:wtBig x=wtL wtNd x.nodes+x.sites.length+wtL wtStr x.outer+wtL wtWr x.inner:=rfl
 obtain ⟨W0,hW0,hbx,hX,_⟩:=box_facts w [.int .i64 x.roots,v1,v2,.int .i64 x.edges,v4,v5] 33
 change Calls Tryz.prog 50 #[.agg #[.int .i64 x.roots,v1,v2,.int .i64 x.edges,v4,v5],.int .i64 left] w _
 have q0:=(hbx 0 _ rfl).1
 have q1:=(hbx 1 _ rfl).1
 have q2:=(hbx 2 _ rfl).1
 have q3:=(hbx 3 _ rfl).1
 have q4:=(hbx 4 _ rfl).1
 have q5:=(hbx 5 _ rfl).1
 go_enter Tryz.func50,Tryz.ntmps50
 go_wp2_with fail
 refine (c_laws_szNodeS lo hi _ _ (left) _ (eN.keeps NdP.keeps (Same.ext hX)) (by omega) (by omega)).mono ?_
 rintro e u0 ⟨rfl,hb⟩
 replace q0:=hb.keep q0
 replace q1:=hb.keep q1
 replace q2:=hb.keep q2
 replace q3:=hb.keep q3
 replace q4:=hb.keep q4
 replace q5:=hb.keep q5
 replace hX:=hX.trans hb
 clear hb
 by_cases h0:((wtL wtNd x.nodes:Nat):Int)≤left
 rotate_left
 ·rw [szR_neg (by omega)]
  go_wp2
  go_ret
  exact ⟨ret_int (by rw [szR_neg (by omega)]),hX⟩
 rw [szR_pos (by omega)]
 go_wp2_with fail
 refine (c_laws_szIntS lo hi _ _ (left - ((wtL wtNd x.nodes:Nat):Int)) _ (eS.keeps IntP.keeps (Same.ext hX)) (by omega) (by omega)).mono ?_
 rintro e u1 ⟨rfl,hb⟩
 replace q0:=hb.keep q0
 replace q1:=hb.keep q1
 replace q2:=hb.keep q2
 replace q3:=hb.keep q3
 replace q4:=hb.keep q4
 replace q5:=hb.keep q5
 replace hX:=hX.trans hb
 clear hb
 by_cases h1:((x.sites.length:Nat):Int)≤left - ((wtL wtNd x.nodes:Nat):Int)
 rotate_left
 ·rw [szR_neg (by omega)]
  go_wp2
  go_ret
  exact ⟨ret_int (by rw [szR_neg (by omega)]),hX⟩
 rw [szR_pos (by omega)]
 go_wp2_with fail
 refine (c_laws_szStringS lo hi _ _ (left - ((wtL wtNd x.nodes:Nat):Int) - ((x.sites.length:Nat):Int)) _ (eO.keeps StrP.keeps (Same.ext hX)) (by omega) (by omega)).mono ?_
 rintro e u2 ⟨rfl,hb⟩
 replace q0:=hb.keep q0
 replace q1:=hb.keep q1
 replace q2:=hb.keep q2
 replace q3:=hb.keep q3
 replace q4:=hb.keep q4
 replace q5:=hb.keep q5
 replace hX:=hX.trans hb
 clear hb
 by_cases h2:((wtL wtStr x.outer:Nat):Int)≤left - ((wtL wtNd x.nodes:Nat):Int) - ((x.sites.length:Nat):Int)
 rotate_left
 ·rw [szR_neg (by omega)]
  go_wp2
  go_ret
  exact ⟨ret_int (by rw [szR_neg (by omega)]),hX⟩
 rw [szR_pos (by omega)]
 go_wp2_with fail
 refine (c_laws_szWireS lo hi _ _ (left - ((wtL wtNd x.nodes:Nat):Int) - ((x.sites.length:Nat):Int) - ((wtL wtStr x.outer:Nat):Int)) _ (eI.keeps WrP.keeps (Same.ext hX)) (by omega) (by omega)).mono ?_
 rintro e u3 ⟨rfl,hb⟩
 replace q0:=hb.keep q0
 replace q1:=hb.keep q1
 replace q2:=hb.keep q2
 replace q3:=hb.keep q3
 replace q4:=hb.keep q4
 replace q5:=hb.keep q5
 replace hX:=hX.trans hb
 clear hb
 by_cases h3:((wtL wtWr x.inner:Nat):Int)≤left - ((wtL wtNd x.nodes:Nat):Int) - ((x.sites.length:Nat):Int) - ((wtL wtStr x.outer:Nat):Int)
 rotate_left
 ·rw [szR_neg (by omega)]
  go_wp2
  go_ret
  exact ⟨ret_int (by rw [szR_neg (by omega)]),hX⟩
 rw [szR_pos (by omega)]
 go_wp2
 go_ret
 exact ⟨ret_int (by rw [szR_pos (by omega)];omega),hX⟩
set_option maxRecDepth 100000 in
set_option maxHeartbeats 1600000 in
theorem c_laws_szRule (lo hi:Nat) (cs:List Value) (x:Rul) (left:Int) (w:World) (h:RulP lo hi w cs x) (hl:0≤left) (hl1:left≤1048576) :
 Calls Tryz.prog 72 #[.agg cs.toArray,.int .i64 left] w fun e w'=>e=.returned (.int .i64 (szR (wtRul x) left))∧Ext w w':=by
 obtain ⟨c1,c2,v,rfl,B1,B2,eC⟩:=h
 have B1':=B1
 have B2':=B2
 obtain ⟨v1,v2,v4,v5,rfl,_⟩:=B1'
 obtain ⟨y1,y2,y4,y5,rfl,_⟩:=B2'
 have hw:wtRul x=wtBig x.redex+wtBig x.reactum+x.copies.length:=rfl
 obtain ⟨W0,hW0,hbx,hX,_⟩:=box_facts w [.int .i64 x.redex.roots,v1,v2,.int .i64 x.redex.edges,v4,v5,.int .i64 x.reactum.roots,y1,y2,.int .i64 x.reactum.edges,y4,y5,v] 114
 change Calls Tryz.prog 72 #[.agg #[.int .i64 x.redex.roots,v1,v2,.int .i64 x.redex.edges,v4,v5,.int .i64 x.reactum.roots,y1,y2,.int .i64 x.reactum.edges,y4,y5,v],.int .i64 left] w _
 have q0:=(hbx 0 _ rfl).1
 have q1:=(hbx 1 _ rfl).1
 have q2:=(hbx 2 _ rfl).1
 have q3:=(hbx 3 _ rfl).1
 have q4:=(hbx 4 _ rfl).1
 have q5:=(hbx 5 _ rfl).1
 have q6:=(hbx 6 _ rfl).1
 have q7:=(hbx 7 _ rfl).1
 have q8:=(hbx 8 _ rfl).1
 have q9:=(hbx 9 _ rfl).1
 have q10:=(hbx 10 _ rfl).1
 have q11:=(hbx 11 _ rfl).1
 have q12:=(hbx 12 _ rfl).1
 go_enter Tryz.func72,Tryz.ntmps72
 go_wp2_with fail
 refine (c_laws_szBigraph lo hi _ _ (left) _ (BigP.keeps _ _ _ _ _ _ (Same.ext hX) B1) (by omega) (by omega)).mono ?_
 rintro e u0 ⟨rfl,hb⟩
 replace q0:=hb.keep q0
 replace q1:=hb.keep q1
 replace q2:=hb.keep q2
 replace q3:=hb.keep q3
 replace q4:=hb.keep q4
 replace q5:=hb.keep q5
 replace q6:=hb.keep q6
 replace q7:=hb.keep q7
 replace q8:=hb.keep q8
 replace q9:=hb.keep q9
 replace q10:=hb.keep q10
 replace q11:=hb.keep q11
 replace q12:=hb.keep q12
 replace hX:=hX.trans hb
 clear hb
 by_cases h0:((wtBig x.redex:Nat):Int)≤left
 rotate_left
 ·rw [szR_neg (by omega)]
  go_wp2
  go_ret
  exact ⟨ret_int (by rw [szR_neg (by omega)]),hX⟩
 rw [szR_pos (by omega)]
 go_wp2_with fail
 refine (c_laws_szBigraph lo hi _ _ (left - ((wtBig x.redex:Nat):Int)) _ (BigP.keeps _ _ _ _ _ _ (Same.ext hX) B2) (by omega) (by omega)).mono ?_
 rintro e u1 ⟨rfl,hb⟩
 replace q0:=hb.keep q0
 replace q1:=hb.keep q1
 replace q2:=hb.keep q2
 replace q3:=hb.keep q3
 replace q4:=hb.keep q4
 replace q5:=hb.keep q5
 replace q6:=hb.keep q6
 replace q7:=hb.keep q7
 replace q8:=hb.keep q8
 replace q9:=hb.keep q9
 replace q10:=hb.keep q10
 replace q11:=hb.keep q11
 replace q12:=hb.keep q12
 replace hX:=hX.trans hb
 clear hb
 by_cases h1:((wtBig x.reactum:Nat):Int)≤left - ((wtBig x.redex:Nat):Int)
 rotate_left
 ·rw [szR_neg (by omega)]
  go_wp2
  go_ret
  exact ⟨ret_int (by rw [szR_neg (by omega)]),hX⟩
 rw [szR_pos (by omega)]
 go_wp2_with fail
 refine (c_laws_szIntS lo hi _ _ (left - ((wtBig x.redex:Nat):Int) - ((wtBig x.reactum:Nat):Int)) _ (eC.keeps IntP.keeps (Same.ext hX)) (by omega) (by omega)).mono ?_
 rintro e u2 ⟨rfl,hb⟩
 replace q0:=hb.keep q0
 replace q1:=hb.keep q1
 replace q2:=hb.keep q2
 replace q3:=hb.keep q3
 replace q4:=hb.keep q4
 replace q5:=hb.keep q5
 replace q6:=hb.keep q6
 replace q7:=hb.keep q7
 replace q8:=hb.keep q8
 replace q9:=hb.keep q9
 replace q10:=hb.keep q10
 replace q11:=hb.keep q11
 replace q12:=hb.keep q12
 replace hX:=hX.trans hb
 clear hb
 by_cases h2:((x.copies.length:Nat):Int)≤left - ((wtBig x.redex:Nat):Int) - ((wtBig x.reactum:Nat):Int)
 rotate_left
 ·rw [szR_neg (by omega)]
  go_wp2
  go_ret
  exact ⟨ret_int (by rw [szR_neg (by omega)]),hX⟩
 rw [szR_pos (by omega)]
 go_wp2
 go_ret
 exact ⟨ret_int (by rw [szR_pos (by omega)];omega),hX⟩
set_option maxRecDepth 100000 in
set_option maxHeartbeats 1600000 in
theorem c_laws_szRuleS (lo hi:Nat) (v:Value) (xs:List Rul) (left:Int) (w:World) (h:SlV 13 RulP lo hi w v xs) (hl:0≤left) (hl1:left≤1048576) :
 Calls Tryz.prog 24 #[v,.int .i64 left] w fun e w'=>e=.returned (.int .i64 (szR (wtL wtRul xs) left))∧Ext w w':=by
 obtain ⟨a,k,rfl,h1,h2,h3,h4⟩:=h
 unfold maxLen at h2
 by_cases hn:(xs.length:Int)≤left
 ·go_enter Tryz.func24,Tryz.ntmps24
  go_wp2
  go_loopw [1,5] (fun c a' wr=>∃i:Nat,c=.int .i64 (left - xs.length - (((xs.take i).map wtRul).sum:Nat))∧a'=.int .i64 i∧i≤xs.length∧(0:Int)≤left - xs.length - (((xs.take i).map wtRul).sum:Nat)∧Ext w wr) (fun _ a' _=>xs.length - (intOf a').toNat)
  case atStart=>exact ⟨0,by simp,rfl,Nat.zero_le _,by simp;omega,xw⟩
  case round=>
   obtain ⟨i,rfl,rfl,hi',hp,hx⟩:=hrel
   by_cases hlt:i<xs.length
   ·rcases h4 with h4|⟨b,o,rfl,hb1,hb2,h4⟩
    ·subst h4;simp at hlt
    ·obtain ⟨cs,hcl,hP,hc⟩:=h4 i hlt
     have hst:((xs.take (i+1)).map wtRul).sum=((xs.take i).map wtRul).sum+wtRul xs[i]:=wtL_take wtRul xs i hlt
     have hle:=sum_take_le wtRul xs (i+1)
     have HP:=RulP.keeps _ _ _ _ _ _ (Same.ext hx) hP
     have HP0:=HP;obtain ⟨c1,c2,v,rfl,⟨v1,v2,v4,v5,rfl,_⟩,⟨y1,y2,y4,y5,rfl,_⟩,eC⟩:=hP
     have q0:=hx.keep (hc 0 _ rfl)
     have q1:=hx.keep (hc 1 _ rfl)
     have q2:=hx.keep (hc 2 _ rfl)
     have q3:=hx.keep (hc 3 _ rfl)
     have q4:=hx.keep (hc 4 _ rfl)
     have q5:=hx.keep (hc 5 _ rfl)
     have q6:=hx.keep (hc 6 _ rfl)
     have q7:=hx.keep (hc 7 _ rfl)
     have q8:=hx.keep (hc 8 _ rfl)
     have q9:=hx.keep (hc 9 _ rfl)
     have q10:=hx.keep (hc 10 _ rfl)
     have q11:=hx.keep (hc 11 _ rfl)
     have q12:=hx.keep (hc 12 _ rfl)
     rw [Nat.add_zero] at q0
     generalize hS:((xs.take i).map wtRul).sum=S at hp hst ⊢
     generalize hS1:((xs.take (i+1)).map wtRul).sum=S1 at hst hle
     have hw:wtL wtRul xs=xs.length+(xs.map wtRul).sum:=rfl
     clear h4 hc
     by_cases hz:((wtRul xs[i]:Nat):Int)≤left - xs.length - (S:Nat)
     ·have hR:=szR_pos hz
      go_wp2_with (go_at_call 72;refine (c_laws_szRule lo hi _ _ _ _ HP0 (by omega) (by omega)).mono ?_;rintro e w1 ⟨rfl,hb1⟩;rw [hR])
      go_roundw
      case rel=>exact ⟨i+1,by rw [hS1,hst];congr 1;omega,rfl,by omega,by rw [hS1];omega,xw⟩
      ·simp only [intOf];omega
     ·have hR:=szR_neg hz
      go_wp2_with (go_at_call 72;refine (c_laws_szRule lo hi _ _ _ _ HP0 (by omega) (by omega)).mono ?_;rintro e w1 ⟨rfl,hb1⟩;rw [hR])
      go_ret
      exact ⟨ret_int (by rw [szR_neg (by omega)]),xw⟩
   ·have hall:=wtL_all wtRul xs i (by omega)
    have hw:wtL wtRul xs=xs.length+(xs.map wtRul).sum:=rfl
    rw [hall] at hp ⊢
    go_wp2
    go_ret
    exact ⟨ret_int (by rw [szR_pos (by omega)];omega),xw⟩
 ·go_enter Tryz.func24,Tryz.ntmps24
  go_wp2
  go_ret
  have hw:wtL wtRul xs=xs.length+(xs.map wtRul).sum:=rfl
  exact ⟨ret_int (by rw [szR_neg (by omega)]),xw⟩
set_option maxRecDepth 100000 in
set_option maxHeartbeats 1600000 in
theorem c_laws_szSorting (lo hi:Nat) (cs:List Value) (x:Srt) (left:Int) (w:World) (h:SrtP lo hi w cs x) (hl:0≤left) (hl1:left≤1048576) :
 Calls Tryz.prog 23 #[.agg cs.toArray,.int .i64 left] w fun e w'=>e=.returned (.int .i64 (szR (wtSrt x) left))∧Ext w w':=by
 obtain ⟨v0,v1,v2,v3,v4,rfl,e0,e1,e2,e3,e4⟩:=h
 have hw:wtSrt x=x.tops.length+wtL wtRow x.nest+wtL wtRow x.sorts+x.most.length+x.apart.length:=rfl
 obtain ⟨W0,hW0,hbx,hX,_⟩:=box_facts w [v0,v1,v2,v3,v4] 27
 change Calls Tryz.prog 23 #[.agg #[v0,v1,v2,v3,v4],.int .i64 left] w _
 have q0:=(hbx 0 _ rfl).1
 have q1:=(hbx 1 _ rfl).1
 have q2:=(hbx 2 _ rfl).1
 have q3:=(hbx 3 _ rfl).1
 have q4:=(hbx 4 _ rfl).1
 go_enter Tryz.func23,Tryz.ntmps23
 go_wp2_with fail
 refine (c_laws_szIntS lo hi _ _ (left) _ (e0.keeps IntP.keeps (Same.ext hX)) (by omega) (by omega)).mono ?_
 rintro e u0 ⟨rfl,hb⟩
 replace q0:=hb.keep q0
 replace q1:=hb.keep q1
 replace q2:=hb.keep q2
 replace q3:=hb.keep q3
 replace q4:=hb.keep q4
 replace hX:=hX.trans hb
 clear hb
 by_cases h0:((x.tops.length:Nat):Int)≤left
 rotate_left
 ·rw [szR_neg (by omega)]
  go_wp2
  go_ret
  exact ⟨ret_int (by rw [szR_neg (by omega)]),hX⟩
 rw [szR_pos (by omega)]
 go_wp2_with fail
 refine (c_laws_szIntSS lo hi _ _ (left - ((x.tops.length:Nat):Int)) _ (e1.keeps RowP.keeps (Same.ext hX)) (by omega) (by omega)).mono ?_
 rintro e u1 ⟨rfl,hb⟩
 replace q0:=hb.keep q0
 replace q1:=hb.keep q1
 replace q2:=hb.keep q2
 replace q3:=hb.keep q3
 replace q4:=hb.keep q4
 replace hX:=hX.trans hb
 clear hb
 by_cases h1:((wtL wtRow x.nest:Nat):Int)≤left - ((x.tops.length:Nat):Int)
 rotate_left
 ·rw [szR_neg (by omega)]
  go_wp2
  go_ret
  exact ⟨ret_int (by rw [szR_neg (by omega)]),hX⟩
 rw [szR_pos (by omega)]
 go_wp2_with fail
 refine (c_laws_szIntSS lo hi _ _ (left - ((x.tops.length:Nat):Int) - ((wtL wtRow x.nest:Nat):Int)) _ (e2.keeps RowP.keeps (Same.ext hX)) (by omega) (by omega)).mono ?_
 rintro e u2 ⟨rfl,hb⟩
 replace q0:=hb.keep q0
 replace q1:=hb.keep q1
 replace q2:=hb.keep q2
 replace q3:=hb.keep q3
 replace q4:=hb.keep q4
 replace hX:=hX.trans hb
 clear hb
 by_cases h2:((wtL wtRow x.sorts:Nat):Int)≤left - ((x.tops.length:Nat):Int) - ((wtL wtRow x.nest:Nat):Int)
 rotate_left
 ·rw [szR_neg (by omega)]
  go_wp2
  go_ret
  exact ⟨ret_int (by rw [szR_neg (by omega)]),hX⟩
 rw [szR_pos (by omega)]
 go_wp2_with fail
 refine (c_laws_szIntS lo hi _ _ (left - ((x.tops.length:Nat):Int) - ((wtL wtRow x.nest:Nat):Int) - ((wtL wtRow x.sorts:Nat):Int)) _ (e3.keeps IntP.keeps (Same.ext hX)) (by omega) (by omega)).mono ?_
 rintro e u3 ⟨rfl,hb⟩
 replace q0:=hb.keep q0
 replace q1:=hb.keep q1
 replace q2:=hb.keep q2
 replace q3:=hb.keep q3
 replace q4:=hb.keep q4
 replace hX:=hX.trans hb
 clear hb
 by_cases h3:((x.most.length:Nat):Int)≤left - ((x.tops.length:Nat):Int) - ((wtL wtRow x.nest:Nat):Int) - ((wtL wtRow x.sorts:Nat):Int)
 rotate_left
 ·rw [szR_neg (by omega)]
  go_wp2
  go_ret
  exact ⟨ret_int (by rw [szR_neg (by omega)]),hX⟩
 rw [szR_pos (by omega)]
 go_wp2_with fail
 refine (c_laws_szIntA2S lo hi _ _ (left - ((x.tops.length:Nat):Int) - ((wtL wtRow x.nest:Nat):Int) - ((wtL wtRow x.sorts:Nat):Int) - ((x.most.length:Nat):Int)) _ (e4.keeps PairP.keeps (Same.ext hX)) (by omega) (by omega)).mono ?_
 rintro e u4 ⟨rfl,hb⟩
 replace q0:=hb.keep q0
 replace q1:=hb.keep q1
 replace q2:=hb.keep q2
 replace q3:=hb.keep q3
 replace q4:=hb.keep q4
 replace hX:=hX.trans hb
 clear hb
 by_cases h4:((x.apart.length:Nat):Int)≤left - ((x.tops.length:Nat):Int) - ((wtL wtRow x.nest:Nat):Int) - ((wtL wtRow x.sorts:Nat):Int) - ((x.most.length:Nat):Int)
 rotate_left
 ·rw [szR_neg (by omega)]
  go_wp2
  go_ret
  exact ⟨ret_int (by rw [szR_neg (by omega)]),hX⟩
 rw [szR_pos (by omega)]
 go_wp2
 go_ret
 exact ⟨ret_int (by rw [szR_pos (by omega)];omega),hX⟩
set_option maxRecDepth 100000 in
set_option maxHeartbeats 1600000 in
theorem c_laws_szRuntime (lo hi:Nat) (cs:List Value) (x:Rnt) (left:Int) (w:World) (h:RntP lo hi w cs x) (hl:0≤left) (hl1:left≤1048576) :
 Calls Tryz.prog 9 #[.agg cs.toArray,.int .i64 left] w fun e w'=>e=.returned (.int .i64 (szR (wtRnt x) left))∧Ext w w':=by
 obtain ⟨v0,c1,v6,v7,c8,rfl,e0,E1,e6,e7,E8,ec⟩:=h
 have E1':=E1
 have E8':=E8
 obtain ⟨s0,s1,s2,s3,s4,rfl,_⟩:=E1'
 obtain ⟨y1,y2,y4,y5,rfl,_⟩:=E8'
 have hw:wtRnt x=wtL wtCtl x.sig+wtSrt x.sort+wtL wtRul x.rules+wtL wtStr x.hosts+wtBig x.agent:=rfl
 obtain ⟨W0,hW0,hbx,hX,_⟩:=box_facts w [v0,s0,s1,s2,s3,s4,v6,v7,.int .i64 x.agent.roots,y1,y2,.int .i64 x.agent.edges,y4,y5,.int .i64 x.count] 35
 change Calls Tryz.prog 9 #[.agg #[v0,s0,s1,s2,s3,s4,v6,v7,.int .i64 x.agent.roots,y1,y2,.int .i64 x.agent.edges,y4,y5,.int .i64 x.count],.int .i64 left] w _
 have q0:=(hbx 0 _ rfl).1
 have q1:=(hbx 1 _ rfl).1
 have q2:=(hbx 2 _ rfl).1
 have q3:=(hbx 3 _ rfl).1
 have q4:=(hbx 4 _ rfl).1
 have q5:=(hbx 5 _ rfl).1
 have q6:=(hbx 6 _ rfl).1
 have q7:=(hbx 7 _ rfl).1
 have q8:=(hbx 8 _ rfl).1
 have q9:=(hbx 9 _ rfl).1
 have q10:=(hbx 10 _ rfl).1
 have q11:=(hbx 11 _ rfl).1
 have q12:=(hbx 12 _ rfl).1
 have q13:=(hbx 13 _ rfl).1
 have q14:=(hbx 14 _ rfl).1
 go_enter Tryz.func9,Tryz.ntmps9
 go_wp2_with fail
 refine (c_laws_szControlS lo hi _ _ (left) _ (e0.keeps CtlP.keeps (Same.ext hX)) (by omega) (by omega)).mono ?_
 rintro e u0 ⟨rfl,hb⟩
 replace q0:=hb.keep q0
 replace q1:=hb.keep q1
 replace q2:=hb.keep q2
 replace q3:=hb.keep q3
 replace q4:=hb.keep q4
 replace q5:=hb.keep q5
 replace q6:=hb.keep q6
 replace q7:=hb.keep q7
 replace q8:=hb.keep q8
 replace q9:=hb.keep q9
 replace q10:=hb.keep q10
 replace q11:=hb.keep q11
 replace q12:=hb.keep q12
 replace q13:=hb.keep q13
 replace q14:=hb.keep q14
 replace hX:=hX.trans hb
 clear hb
 by_cases h0:((wtL wtCtl x.sig:Nat):Int)≤left
 rotate_left
 ·rw [szR_neg (by omega)]
  go_wp2
  go_ret
  exact ⟨ret_int (by rw [szR_neg (by omega)]),hX⟩
 rw [szR_pos (by omega)]
 go_wp2_with fail
 refine (c_laws_szSorting lo hi _ _ (left - ((wtL wtCtl x.sig:Nat):Int)) _ (SrtP.keeps _ _ _ _ _ _ (Same.ext hX) E1) (by omega) (by omega)).mono ?_
 rintro e u1 ⟨rfl,hb⟩
 replace q0:=hb.keep q0
 replace q1:=hb.keep q1
 replace q2:=hb.keep q2
 replace q3:=hb.keep q3
 replace q4:=hb.keep q4
 replace q5:=hb.keep q5
 replace q6:=hb.keep q6
 replace q7:=hb.keep q7
 replace q8:=hb.keep q8
 replace q9:=hb.keep q9
 replace q10:=hb.keep q10
 replace q11:=hb.keep q11
 replace q12:=hb.keep q12
 replace q13:=hb.keep q13
 replace q14:=hb.keep q14
 replace hX:=hX.trans hb
 clear hb
 by_cases h1:((wtSrt x.sort:Nat):Int)≤left - ((wtL wtCtl x.sig:Nat):Int)
 rotate_left
 ·rw [szR_neg (by omega)]
  go_wp2
  go_ret
  exact ⟨ret_int (by rw [szR_neg (by omega)]),hX⟩
 rw [szR_pos (by omega)]
 go_wp2_with fail
 refine (c_laws_szRuleS lo hi _ _ (left - ((wtL wtCtl x.sig:Nat):Int) - ((wtSrt x.sort:Nat):Int)) _ (e6.keeps RulP.keeps (Same.ext hX)) (by omega) (by omega)).mono ?_
 rintro e u2 ⟨rfl,hb⟩
 replace q0:=hb.keep q0
 replace q1:=hb.keep q1
 replace q2:=hb.keep q2
 replace q3:=hb.keep q3
 replace q4:=hb.keep q4
 replace q5:=hb.keep q5
 replace q6:=hb.keep q6
 replace q7:=hb.keep q7
 replace q8:=hb.keep q8
 replace q9:=hb.keep q9
 replace q10:=hb.keep q10
 replace q11:=hb.keep q11
 replace q12:=hb.keep q12
 replace q13:=hb.keep q13
 replace q14:=hb.keep q14
 replace hX:=hX.trans hb
 clear hb
 by_cases h2:((wtL wtRul x.rules:Nat):Int)≤left - ((wtL wtCtl x.sig:Nat):Int) - ((wtSrt x.sort:Nat):Int)
 rotate_left
 ·rw [szR_neg (by omega)]
  go_wp2
  go_ret
  exact ⟨ret_int (by rw [szR_neg (by omega)]),hX⟩
 rw [szR_pos (by omega)]
 go_wp2_with fail
 refine (c_laws_szStringS lo hi _ _ (left - ((wtL wtCtl x.sig:Nat):Int) - ((wtSrt x.sort:Nat):Int) - ((wtL wtRul x.rules:Nat):Int)) _ (e7.keeps StrP.keeps (Same.ext hX)) (by omega) (by omega)).mono ?_
 rintro e u3 ⟨rfl,hb⟩
 replace q0:=hb.keep q0
 replace q1:=hb.keep q1
 replace q2:=hb.keep q2
 replace q3:=hb.keep q3
 replace q4:=hb.keep q4
 replace q5:=hb.keep q5
 replace q6:=hb.keep q6
 replace q7:=hb.keep q7
 replace q8:=hb.keep q8
 replace q9:=hb.keep q9
 replace q10:=hb.keep q10
 replace q11:=hb.keep q11
 replace q12:=hb.keep q12
 replace q13:=hb.keep q13
 replace q14:=hb.keep q14
 replace hX:=hX.trans hb
 clear hb
 by_cases h3:((wtL wtStr x.hosts:Nat):Int)≤left - ((wtL wtCtl x.sig:Nat):Int) - ((wtSrt x.sort:Nat):Int) - ((wtL wtRul x.rules:Nat):Int)
 rotate_left
 ·rw [szR_neg (by omega)]
  go_wp2
  go_ret
  exact ⟨ret_int (by rw [szR_neg (by omega)]),hX⟩
 rw [szR_pos (by omega)]
 go_wp2_with fail
 refine (c_laws_szBigraph lo hi _ _ (left - ((wtL wtCtl x.sig:Nat):Int) - ((wtSrt x.sort:Nat):Int) - ((wtL wtRul x.rules:Nat):Int) - ((wtL wtStr x.hosts:Nat):Int)) _ (BigP.keeps _ _ _ _ _ _ (Same.ext hX) E8) (by omega) (by omega)).mono ?_
 rintro e u4 ⟨rfl,hb⟩
 replace q0:=hb.keep q0
 replace q1:=hb.keep q1
 replace q2:=hb.keep q2
 replace q3:=hb.keep q3
 replace q4:=hb.keep q4
 replace q5:=hb.keep q5
 replace q6:=hb.keep q6
 replace q7:=hb.keep q7
 replace q8:=hb.keep q8
 replace q9:=hb.keep q9
 replace q10:=hb.keep q10
 replace q11:=hb.keep q11
 replace q12:=hb.keep q12
 replace q13:=hb.keep q13
 replace q14:=hb.keep q14
 replace hX:=hX.trans hb
 clear hb
 by_cases h4:((wtBig x.agent:Nat):Int)≤left - ((wtL wtCtl x.sig:Nat):Int) - ((wtSrt x.sort:Nat):Int) - ((wtL wtRul x.rules:Nat):Int) - ((wtL wtStr x.hosts:Nat):Int)
 rotate_left
 ·rw [szR_neg (by omega)]
  go_wp2
  go_ret
  exact ⟨ret_int (by rw [szR_neg (by omega)]),hX⟩
 rw [szR_pos (by omega)]
 go_wp2
 go_ret
 exact ⟨ret_int (by rw [szR_pos (by omega)];omega),hX⟩
end Go.Proofs.YtccjepndhlobpaaGreatDoor
