/-
  Walks: copies of slices, in memory of their own.
-/
import Derived.Test.YtccjepndhlobpaaGreatDoorS3
import Derived.Test.YtccjepndhlobpaaGreatDoorB2
import Derived.Lib.SliceRun
namespace Go.Proofs.YtccjepndhlobpaaGreatDoor
open Go.RowKit
set_option linter.unusedVariables false
set_option linter.unusedSimpArgs false
theorem IntP.ones:Ones IntP:=by rintro lo hi w cs x ⟨rfl,_⟩ u hu;simp at hu;subst hu;rfl
theorem StrP.ones:Ones StrP:=by rintro lo hi w cs x ⟨rfl,_⟩ u hu;simp at hu;subst hu;rfl
theorem CtlP.ones:Ones CtlP:=by rintro lo hi w cs x ⟨rfl,_⟩ u hu;simp at hu;rcases hu with rfl|rfl|rfl <;> rfl
theorem WrP.ones:Ones WrP:=by rintro lo hi w cs x ⟨rfl,_⟩ u hu;simp at hu;rcases hu with rfl|rfl <;> rfl
theorem PairP.ones:Ones PairP:=by rintro lo hi w cs x ⟨rfl,_⟩ u hu;simp at hu;rcases hu with rfl|rfl <;> rfl
theorem SlO.none {α:Type} {size:Nat} {P:Lie α} {lo hi:Nat} {w:World}:SlO size P lo hi w (.slice none 0 0) []:=⟨Option.none,0,rfl,Nat.le_refl _,by decide,fun _=>rfl,.inl rfl⟩

set_option maxRecDepth 100000 in
set_option maxHeartbeats 1600000 in
theorem c_slices_Clone_int_int (lo hi:Nat) (v:Value) (xs:List Int) (w:World) (hV:SlV 1 IntP lo hi w v xs) (hn:xs.length≤10000000) :
 Calls Tryz.prog 136 #[v] w fun e w'=>∃v',e=.returned v'∧SlO 1 IntP w.heap.size w'.heap.size w' v' xs∧Ext w w':=by
 obtain ⟨i0,hi0,h1⟩:=Option.map_eq_some_iff.1 infoInt
 simp only [Prod.mk.injEq] at h1
 obtain ⟨hz0,hz1,hz2⟩:=h1
 have q22:∀(w:World) (a:Option Addr) (n c n' c':Nat),(binOp .eql 23 (.slice a n c) (.slice none n' c')).run Tryz.prog w=.ok (.bool a.isNone) w:=fun w a n c n' c'=>Lib.run_eql_slice_nil w _ _ a n c n' c' Tryz.underlying23
 obtain ⟨a,k,rfl,g1,g2,g3,_⟩:=id hV
 cases a with
 | none=>
  obtain rfl:k=0:=g3 rfl
  obtain rfl:xs = []:=List.eq_nil_of_length_eq_zero (by omega)
  go_enter Tryz.func136,Tryz.ntmps136
  go_wp2
  go_ret
  exact ⟨_,rfl,SlO.none,Ext.refl w⟩
 | some ad=>
 go_enter Tryz.func136,Tryz.ntmps136
 go_wp2_with (at_builtin;refine wpList_append_all IntP.flat IntP.ones rfl (.tmp 5) (.tmp 6) 23 rfl w.heap.size 3 i0 _ 8 Tryz.underlying23 hi0 hz0 hz1 hz2 rfl (by decide) _ [] (by rfl) (RowL.made (Nat.le_refl _)) _ xs lo hi (by rfl) (hV.ext IntP.keeps xw) (by simp only [List.length_nil];omega) (by decide) (by simp) ?_;intro v3 w3 row3 ext3 gro3 own3)
 go_wp2
 go_ret
 have hx3:=ext3 w xw (Nat.le_refl _)
 rw [List.nil_append] at row3
 exact ⟨_,rfl,row3.toSlO IntP.flat (Nat.le_refl _) (Below.size hx3),hx3⟩
set_option maxRecDepth 100000 in
set_option maxHeartbeats 1600000 in
theorem c_slices_Clone_string_string (lo hi:Nat) (v:Value) (xs:List ByteArray) (w:World) (hV:SlV 1 StrP lo hi w v xs) (hn:xs.length≤10000000) :
 Calls Tryz.prog 134 #[v] w fun e w'=>∃v',e=.returned v'∧SlO 1 StrP w.heap.size w'.heap.size w' v' xs∧Ext w w':=by
 obtain ⟨i0,hi0,h1⟩:=Option.map_eq_some_iff.1 infoStr
 simp only [Prod.mk.injEq] at h1
 obtain ⟨hz0,hz1,hz2⟩:=h1
 have q22:∀(w:World) (a:Option Addr) (n c n' c':Nat),(binOp .eql 29 (.slice a n c) (.slice none n' c')).run Tryz.prog w=.ok (.bool a.isNone) w:=fun w a n c n' c'=>Lib.run_eql_slice_nil w _ _ a n c n' c' Tryz.underlying29
 obtain ⟨a,k,rfl,g1,g2,g3,_⟩:=id hV
 cases a with
 | none=>
  obtain rfl:k=0:=g3 rfl
  obtain rfl:xs = []:=List.eq_nil_of_length_eq_zero (by omega)
  go_enter Tryz.func134,Tryz.ntmps134
  go_wp2
  go_ret
  exact ⟨_,rfl,SlO.none,Ext.refl w⟩
 | some ad=>
 go_enter Tryz.func134,Tryz.ntmps134
 go_wp2_with (at_builtin;refine wpList_append_all StrP.flat StrP.ones rfl (.tmp 5) (.tmp 6) 29 rfl w.heap.size 9 i0 _ 16 Tryz.underlying29 hi0 hz0 hz1 hz2 rfl (by decide) _ [] (by rfl) (RowL.made (Nat.le_refl _)) _ xs lo hi (by rfl) (hV.ext StrP.keeps xw) (by simp only [List.length_nil];omega) (by decide) (by simp) ?_;intro v3 w3 row3 ext3 gro3 own3)
 go_wp2
 go_ret
 have hx3:=ext3 w xw (Nat.le_refl _)
 rw [List.nil_append] at row3
 exact ⟨_,rfl,row3.toSlO StrP.flat (Nat.le_refl _) (Below.size hx3),hx3⟩
set_option maxRecDepth 100000 in
set_option maxHeartbeats 1600000 in
theorem c_slices_Clone_impl_Control_impl_Control (lo hi:Nat) (v:Value) (xs:List Ctl) (w:World) (hV:SlV 3 CtlP lo hi w v xs) (hn:xs.length≤10000000) :
 Calls Tryz.prog 133 #[v] w fun e w'=>∃v',e=.returned v'∧SlO 3 CtlP w.heap.size w'.heap.size w' v' xs∧Ext w w':=by
 obtain ⟨i0,hi0,h1⟩:=Option.map_eq_some_iff.1 infoCtl
 simp only [Prod.mk.injEq] at h1
 obtain ⟨hz0,hz1,hz2⟩:=h1
 have q22:∀(w:World) (a:Option Addr) (n c n' c':Nat),(binOp .eql 38 (.slice a n c) (.slice none n' c')).run Tryz.prog w=.ok (.bool a.isNone) w:=fun w a n c n' c'=>Lib.run_eql_slice_nil w _ _ a n c n' c' Tryz.underlying38
 obtain ⟨a,k,rfl,g1,g2,g3,_⟩:=id hV
 cases a with
 | none=>
  obtain rfl:k=0:=g3 rfl
  obtain rfl:xs = []:=List.eq_nil_of_length_eq_zero (by omega)
  go_enter Tryz.func133,Tryz.ntmps133
  go_wp2
  go_ret
  exact ⟨_,rfl,SlO.none,Ext.refl w⟩
 | some ad=>
 go_enter Tryz.func133,Tryz.ntmps133
 go_wp2_with (at_builtin;refine wpList_append_all CtlP.flat CtlP.ones rfl (.tmp 5) (.tmp 6) 38 rfl w.heap.size 116 i0 _ 32 Tryz.underlying38 hi0 hz0 hz1 hz2 rfl (by decide) _ [] (by rfl) (RowL.made (Nat.le_refl _)) _ xs lo hi (by rfl) (hV.ext CtlP.keeps xw) (by simp only [List.length_nil];omega) (by decide) (by simp) ?_;intro v3 w3 row3 ext3 gro3 own3)
 go_wp2
 go_ret
 have hx3:=ext3 w xw (Nat.le_refl _)
 rw [List.nil_append] at row3
 exact ⟨_,rfl,row3.toSlO CtlP.flat (Nat.le_refl _) (Below.size hx3),hx3⟩
set_option maxRecDepth 100000 in
set_option maxHeartbeats 1600000 in
theorem c_slices_Clone_impl_Wire_impl_Wire (lo hi:Nat) (v:Value) (xs:List Wr) (w:World) (hV:SlV 2 WrP lo hi w v xs) (hn:xs.length≤10000000) :
 Calls Tryz.prog 196 #[v] w fun e w'=>∃v',e=.returned v'∧SlO 2 WrP w.heap.size w'.heap.size w' v' xs∧Ext w w':=by
 obtain ⟨i0,hi0,h1⟩:=Option.map_eq_some_iff.1 infoWr
 simp only [Prod.mk.injEq] at h1
 obtain ⟨hz0,hz1,hz2⟩:=h1
 have q22:∀(w:World) (a:Option Addr) (n c n' c':Nat),(binOp .eql 42 (.slice a n c) (.slice none n' c')).run Tryz.prog w=.ok (.bool a.isNone) w:=fun w a n c n' c'=>Lib.run_eql_slice_nil w _ _ a n c n' c' Tryz.underlying42
 obtain ⟨a,k,rfl,g1,g2,g3,_⟩:=id hV
 cases a with
 | none=>
  obtain rfl:k=0:=g3 rfl
  obtain rfl:xs = []:=List.eq_nil_of_length_eq_zero (by omega)
  go_enter Tryz.func196,Tryz.ntmps196
  go_wp2
  go_ret
  exact ⟨_,rfl,SlO.none,Ext.refl w⟩
 | some ad=>
 go_enter Tryz.func196,Tryz.ntmps196
 go_wp2_with (at_builtin;refine wpList_append_all WrP.flat WrP.ones rfl (.tmp 5) (.tmp 6) 42 rfl w.heap.size 172 i0 _ 24 Tryz.underlying42 hi0 hz0 hz1 hz2 rfl (by decide) _ [] (by rfl) (RowL.made (Nat.le_refl _)) _ xs lo hi (by rfl) (hV.ext WrP.keeps xw) (by simp only [List.length_nil];omega) (by decide) (by simp) ?_;intro v3 w3 row3 ext3 gro3 own3)
 go_wp2
 go_ret
 have hx3:=ext3 w xw (Nat.le_refl _)
 rw [List.nil_append] at row3
 exact ⟨_,rfl,row3.toSlO WrP.flat (Nat.le_refl _) (Below.size hx3),hx3⟩
set_option maxRecDepth 100000 in
set_option maxHeartbeats 1600000 in
theorem c_slices_Clone_2_int_2_int (lo hi:Nat) (v:Value) (xs:List (Int × Int)) (w:World) (hV:SlV 2 PairP lo hi w v xs) (hn:xs.length≤10000000) :
 Calls Tryz.prog 138 #[v] w fun e w'=>∃v',e=.returned v'∧SlO 2 PairP w.heap.size w'.heap.size w' v' xs∧Ext w w':=by
 obtain ⟨i0,hi0,h1⟩:=Option.map_eq_some_iff.1 infoPair
 simp only [Prod.mk.injEq] at h1
 obtain ⟨hz0,hz1,hz2⟩:=h1
 have q22:∀(w:World) (a:Option Addr) (n c n' c':Nat),(binOp .eql 25 (.slice a n c) (.slice none n' c')).run Tryz.prog w=.ok (.bool a.isNone) w:=fun w a n c n' c'=>Lib.run_eql_slice_nil w _ _ a n c n' c' Tryz.underlying25
 obtain ⟨a,k,rfl,g1,g2,g3,_⟩:=id hV
 cases a with
 | none=>
  obtain rfl:k=0:=g3 rfl
  obtain rfl:xs = []:=List.eq_nil_of_length_eq_zero (by omega)
  go_enter Tryz.func138,Tryz.ntmps138
  go_wp2
  go_ret
  exact ⟨_,rfl,SlO.none,Ext.refl w⟩
 | some ad=>
 go_enter Tryz.func138,Tryz.ntmps138
 go_wp2_with (at_builtin;refine wpList_append_all PairP.flat PairP.ones rfl (.tmp 5) (.tmp 6) 25 rfl w.heap.size 166 i0 _ 16 Tryz.underlying25 hi0 hz0 hz1 hz2 rfl (by decide) _ [] (by rfl) (RowL.made (Nat.le_refl _)) _ xs lo hi (by rfl) (hV.ext PairP.keeps xw) (by simp only [List.length_nil];omega) (by decide) (by simp) ?_;intro v3 w3 row3 ext3 gro3 own3)
 go_wp2
 go_ret
 have hx3:=ext3 w xw (Nat.le_refl _)
 rw [List.nil_append] at row3
 exact ⟨_,rfl,row3.toSlO PairP.flat (Nat.le_refl _) (Below.size hx3),hx3⟩
set_option maxRecDepth 100000 in
set_option maxHeartbeats 1600000 in
theorem c_spec_l1Own (lo hi:Nat) (v:Value) (xs:List Int) (w:World) (hV:SlV 1 IntP lo hi w v xs) (hn:xs.length≤10000000) :
 Calls Tryz.prog 193 #[v] w fun e w'=>∃v',e=.returned v'∧SlO 1 IntP w.heap.size w'.heap.size w' v' xs∧Ext w w':=by
 obtain ⟨i0,hi0,h1⟩:=Option.map_eq_some_iff.1 infoInt
 simp only [Prod.mk.injEq] at h1
 obtain ⟨hz0,hz1,hz2⟩:=h1
 go_enter Tryz.func193,Tryz.ntmps193
 go_wp2_with (at_builtin;refine wpList_append_all IntP.flat IntP.ones rfl (.tmp 3) (.tmp 4) 23 rfl w.heap.size 3 i0 _ 8 Tryz.underlying23 hi0 hz0 hz1 hz2 rfl (by decide) _ [] (by rfl) (RowL.made (Nat.le_refl _)) _ xs lo hi (by rfl) (hV.ext IntP.keeps xw) (by simp only [List.length_nil];omega) (by decide) (by simp) ?_;intro v3 w3 row3 ext3 gro3 own3)
 go_wp2
 go_ret
 have hx3:=ext3 w xw (Nat.le_refl _)
 rw [List.nil_append] at row3
 exact ⟨_,rfl,row3.toSlO IntP.flat (Nat.le_refl _) (Below.size hx3),hx3⟩
set_option maxRecDepth 100000 in
set_option maxHeartbeats 1600000 in
theorem c_spec_l7Table (lo hi:Nat) (v:Value) (xs:List (List Int)) (w:World) (h:SlV 1 RowP lo hi w v xs) (hn:wtL wtRow xs≤1048576) :
 Calls Tryz.prog 194 #[v] w fun e w'=>∃v',e=.returned v'∧SlO 1 RowO w.heap.size w'.heap.size w' v' xs∧Ext w w':=by
 obtain ⟨i0,hi0,h1⟩:=Option.map_eq_some_iff.1 infoRow
 simp only [Prod.mk.injEq] at h1
 obtain ⟨hz0,hz1,hz2⟩:=h1
 have hlen:xs.length≤1048576:=by unfold wtL at hn;omega
 obtain ⟨a,k,rfl,g1,g2,g3,g4⟩:=h
 unfold maxLen at g2
 have hrow0:RowX 1 RowO 23 w.heap.size w.heap.size (w.alloc (.cells #[] 23)) (.slice (some ⟨w.heap.size,0,none⟩) 0 0) []:=RowX.made (Nat.le_refl _) (Nat.le_refl _)
 go_enter Tryz.func194,Tryz.ntmps194
 go_wp2
 go_loopw [3,4] (fun v c wr=>∃i:Nat,c=.int .i64 i∧i≤xs.length∧RowX 1 RowO 23 w.heap.size wr.heap.size wr v (xs.take i)∧Ext w wr) (fun _ c _=>xs.length - (intOf c).toNat)
 case atStart=>exact ⟨0,rfl,Nat.zero_le _,hrow0.up (by simp) (Nat.le_refl _),xw⟩
 case round=>
  obtain ⟨i,rfl,hi',hrow,hx⟩:=hrel
  by_cases hlt:i<xs.length
  ·have HT:=Lib.hid (List.take_succ_eq_append_getElem hlt)
   have hwt:=wtL_mem wtRow xs xs[i] (List.getElem_mem hlt)
   have hwr:wtRow xs[i]=xs[i].length:=rfl
   have hsz:=Below.size hx
   have hln:(xs.take i).length<100000000:=by rw [List.length_take];omega
   rcases g4 with g4|⟨b,o,rfl,gb1,gb2,g4⟩
   ·subst g4;simp at hlt
   obtain ⟨cs,hl,⟨rv,rfl,e1⟩,hc⟩:=g4 i hlt
   have q0:=hx.keep (hc 0 _ rfl)
   rw [Nat.mul_one,Nat.add_zero] at q0
   clear g4 hc
   go_wp2_with fail
   refine (c_spec_l1Own lo hi _ xs[i] _ (e1.ext IntP.keeps xw) (by omega)).mono ?_
   rintro e y ⟨v',rfl,hO,hb⟩
   have hsz2:=Below.size hb
   have hx2:=hx.trans hb
   have hrow2:=hrow.ext RowO.keepsO hb
   have hel:RowO wr.heap.size y.heap.size y [v'] xs[i]:=⟨_,rfl,hO⟩
   obtain ⟨ua,uk,rfl,_⟩:=id hO
   go_wp2_with (at_builtin;refine wpList_append_rowX RowO.keepsO rfl (.tmp 12) (.tmp 18) 24 rfl (w.heap.size) (wr.heap.size) 23 i0 _ 24 Tryz.underlying24 hi0 hz0 hz1 hz2 rfl (by decide) _ _ (by rfl) (hrow2.ext RowO.keepsO xw) ⟨y.heap.size,0,none⟩ 1 [.slice ua xs[i].length uk] rfl rfl (one_cell (by simp)) (by simp [Value.oneCell']) (wr.heap.size) (y.heap.size) (by omega) (by omega) (by omega) (by first|omega|(simp <;> omega)) (fun g hg=>.inl (hrow.block g hg).2) xs[i] (RowO.keepsO.ext hel xw)  (by first|omega|(simp <;> omega)) (by decide) (by first|omega|(simp <;> omega)) ?_;intro v3 w3 row3 ext3 gro3 own3)
   have hx3:=ext3 w xw (Nat.le_refl _)
   go_roundw
   case rel=>exact ⟨i+1,rfl,by omega,by rw [HT.out];exact row3,hx3⟩
   all_goals (simp only [intOf];omega)
  ·have e:i=xs.length:=by omega
   subst e
   rw [List.take_length] at hrow
   go_wp2
   go_ret
   exact ⟨_,rfl,hrow.toSlO (Nat.le_refl _),hx⟩
set_option maxRecDepth 100000 in
set_option maxHeartbeats 1600000 in
theorem c_impl_ownTable (lo hi:Nat) (v:Value) (xs:List (List Int)) (w:World) (h:SlV 1 RowP lo hi w v xs) (hn:wtL wtRow xs≤1048576) :
 Calls Tryz.prog 137 #[v] w fun e w'=>∃v',e=.returned v'∧SlO 1 RowO w.heap.size w'.heap.size w' v' xs∧Ext w w':=by
 obtain ⟨i0,hi0,h1⟩:=Option.map_eq_some_iff.1 infoRow
 simp only [Prod.mk.injEq] at h1
 obtain ⟨hz0,hz1,hz2⟩:=h1
 have hlen:xs.length≤1048576:=by unfold wtL at hn;omega
 obtain ⟨a,k,rfl,g1,g2,g3,g4⟩:=h
 unfold maxLen at g2
 have hrow0:RowX 1 RowO 23 w.heap.size w.heap.size (w.alloc (.cells #[] 23)) (.slice (some ⟨w.heap.size,0,none⟩) 0 0) []:=RowX.made (Nat.le_refl _) (Nat.le_refl _)
 go_enter Tryz.func137,Tryz.ntmps137
 go_wp2
 go_loopw [3,9] (fun v c wr=>∃i:Nat,c=.int .i64 i∧i≤xs.length∧RowX 1 RowO 23 w.heap.size wr.heap.size wr v (xs.take i)∧Ext w wr) (fun _ c _=>xs.length - (intOf c).toNat)
 case atStart=>exact ⟨0,rfl,Nat.zero_le _,hrow0.up (by simp) (Nat.le_refl _),xw⟩
 case round=>
  obtain ⟨i,rfl,hi',hrow,hx⟩:=hrel
  by_cases hlt:i<xs.length
  ·have HT:=Lib.hid (List.take_succ_eq_append_getElem hlt)
   have hwt:=wtL_mem wtRow xs xs[i] (List.getElem_mem hlt)
   have hwr:wtRow xs[i]=xs[i].length:=rfl
   have hsz:=Below.size hx
   have hln:(xs.take i).length<100000000:=by rw [List.length_take];omega
   rcases g4 with g4|⟨b,o,rfl,gb1,gb2,g4⟩
   ·subst g4;simp at hlt
   obtain ⟨cs,hl,⟨rv,rfl,e1⟩,hc⟩:=g4 i hlt
   have q0:=hx.keep (hc 0 _ rfl)
   rw [Nat.mul_one,Nat.add_zero] at q0
   clear g4 hc
   go_wp2_with fail
   refine (c_slices_Clone_int_int lo hi _ xs[i] _ (e1.ext IntP.keeps xw) (by omega)).mono ?_
   rintro e y ⟨v',rfl,hO,hb⟩
   have hsz2:=Below.size hb
   have hx2:=hx.trans hb
   have hrow2:=hrow.ext RowO.keepsO hb
   have hel:RowO wr.heap.size y.heap.size y [v'] xs[i]:=⟨_,rfl,hO⟩
   obtain ⟨ua,uk,rfl,_⟩:=id hO
   go_wp2_with (at_builtin;refine wpList_append_rowX RowO.keepsO rfl (.tmp 13) (.tmp 16) 24 rfl (w.heap.size) (wr.heap.size) 23 i0 _ 24 Tryz.underlying24 hi0 hz0 hz1 hz2 rfl (by decide) _ _ (by rfl) (hrow2.ext RowO.keepsO xw) ⟨y.heap.size,0,none⟩ 1 [.slice ua xs[i].length uk] rfl rfl (one_cell (by simp)) (by simp [Value.oneCell']) (wr.heap.size) (y.heap.size) (by omega) (by omega) (by omega) (by first|omega|(simp <;> omega)) (fun g hg=>.inl (hrow.block g hg).2) xs[i] (RowO.keepsO.ext hel xw)  (by first|omega|(simp <;> omega)) (by decide) (by first|omega|(simp <;> omega)) ?_;intro v3 w3 row3 ext3 gro3 own3)
   have hx3:=ext3 w xw (Nat.le_refl _)
   go_roundw
   case rel=>exact ⟨i+1,rfl,by omega,by rw [HT.out];exact row3,hx3⟩
   all_goals (simp only [intOf];omega)
  ·have e:i=xs.length:=by omega
   subst e
   rw [List.take_length] at hrow
   go_wp2
   go_ret
   exact ⟨_,rfl,hrow.toSlO (Nat.le_refl _),hx⟩
end Go.Proofs.YtccjepndhlobpaaGreatDoor
