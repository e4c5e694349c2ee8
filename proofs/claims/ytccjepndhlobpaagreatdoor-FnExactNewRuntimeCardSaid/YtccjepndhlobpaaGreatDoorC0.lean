/-
  Plain facts and facts on memory that the walks lean on.
-/
import Derived.Test.YtccjepndhlobpaaGreatDoorRows
import Derived.Test.YtccjepndhlobpaaGreatDoorShelf
import Derived.Test.YtccjepndhlobpaaGreatDoorB0
import Derived.WalkSpells
import Derived.WalkLawsBesides
import Derived.Deep.DeepMust
import Derived.Lib.SliceRun
import Derived.Shelf.Strings.SlTrimAscii
import Derived.BigQuiet
import Derived.Deep.RegionWith
import Derived.Deep.DrawnRows
import Derived.Deep.RegionHeld3
/-
  Walks: strings, numbers in ranges, records.
-/
namespace Go.Proofs.YtccjepndhlobpaaGreatDoor
open Go.RowKit
set_option linter.unusedVariables false
set_option linter.unusedSimpArgs false

theorem contains1 (s:ByteArray) (c:UInt8) (w:World) :
 Calls Tryz.prog 257 #[.string s,.string ⟨#[c]⟩] w fun e w'=>e=.returned (.bool (hasByte s (c.toNat:Int)))∧w=w':=
 (Tryz.strings_Contains_one s c w).mono fun _ _ ⟨h,k⟩=>⟨by rw [h,contains_one],k.symm⟩
set_option maxHeartbeats 400000 in
theorem c_impl_within (n a b:Int) (w:World) :
 Calls Tryz.prog 55 #[.int .i64 n,.int .i64 a,.int .i64 b] w fun e w'=>e=.returned (.bool (inR n a b))∧w=w':=by
 by_cases h:a≤n
 ·go_enter Tryz.func55,Tryz.ntmps55
  go_wp2
  go_ret
  exact ⟨by simp [inR,h],rfl⟩
 ·go_enter Tryz.func55,Tryz.ntmps55
  go_wp2
  go_ret
  exact ⟨by simp [inR];omega,rfl⟩
set_option maxHeartbeats 400000 in
theorem c_spec_l1In (n a b:Int) (w:World) :
 Calls Tryz.prog 106 #[.int .i64 n,.int .i64 a,.int .i64 b] w fun e w'=>e=.returned (.bool (inR n a b))∧w=w':=by
 by_cases h:a≤n
 ·go_enter Tryz.func106,Tryz.ntmps106
  go_wp2
  go_ret
  exact ⟨by simp [inR,h],rfl⟩
 ·go_enter Tryz.func106,Tryz.ntmps106
  go_wp2
  go_ret
  exact ⟨by simp [inR];omega,rfl⟩

set_option maxHeartbeats 400000 in
theorem c_impl_isPrinted (s:ByteArray) (w:World) (hs:s.size≤maxLen) :
 Calls Tryz.prog 260 #[.string s] w fun e w'=>e=.returned (.bool (printed s))∧w=w':=by
 unfold maxLen at hs
 go_enter Tryz.func260,Tryz.ntmps260
 go_wp2
 go_loop [3,6] (fun _ i=>∃k:Nat,k≤s.size∧i=.int .i64 k∧(s.data.toList.take k).all okByte=true) (fun _ i=>s.size - (intOf i).toNat)
 case atStart=>exact ⟨0,Nat.zero_le _,rfl,by simp⟩
 case round=>
  obtain ⟨k,hk,rfl,hp⟩:=hrel
  have HP:=Lib.hid hp
  clear hp
  by_cases hlt:k<s.size
  ·have hb:=byte_lt s k hlt
   cases h1:inR (s[k].toNat:Int) 32 126
   ·have H1:=Lib.hid h1
    clear h1
    go_wp2_with (go_at_call 55;refine (c_impl_within _ _ _ _).mono ?_;rintro e w' ⟨rfl,rfl⟩;rw [H1.out])
    go_ret
    exact ⟨ret_bool (all_at s okByte k hlt (by simp [okByte,H1.out])).symm,rfl⟩
   ·have H1:=Lib.hid h1
    clear h1
    cases h2:(s[k].toNat:Int) == 35
    ·go_wp2_with (go_at_call 55;refine (c_impl_within _ _ _ _).mono ?_;rintro e w' ⟨rfl,rfl⟩;rw [H1.out])
     go_round
     case rel=>exact ⟨k+1,by omega,by go_num,by rw [take_snoc s k hlt,List.all_append,HP.out];simp [okByte,H1.out,h2]⟩
     case measure=>simp [intOf];omega
    ·go_wp2_with (go_at_call 55;refine (c_impl_within _ _ _ _).mono ?_;rintro e w' ⟨rfl,rfl⟩;rw [H1.out])
     go_ret
     exact ⟨ret_bool (all_at s okByte k hlt (by simp [okByte,h2])).symm,rfl⟩
  ·go_wp2
   go_ret
   exact ⟨ret_bool (by rw [printed,← take_all s k hlt,HP.out]),rfl⟩

set_option maxHeartbeats 400000 in
theorem c_spec_l13Bytes (s:ByteArray) (m:Int) (w:World) (hs:s.size≤maxLen) :
 Calls Tryz.prog 235 #[.string s,.int .i64 m] w fun e w'=>e=.returned (.bool (printed s && fits s m))∧w=w':=by
 unfold maxLen at hs
 go_enter Tryz.func235,Tryz.ntmps235
 go_wp2
 go_loop [5] (fun i=>∃k:Nat,k≤s.size∧i=.int .i64 k∧(s.data.toList.take k).all okByte=true) (fun i=>s.size - (intOf i).toNat)
 case atStart=>exact ⟨0,Nat.zero_le _,rfl,by simp⟩
 case round=>
  obtain ⟨k,hk,rfl,hp⟩:=hrel
  have HP:=Lib.hid hp
  clear hp
  by_cases hlt:k<s.size
  ·have hb:=byte_lt s k hlt
   cases h1:inR (s[k].toNat:Int) 32 126
   ·have H1:=Lib.hid h1
    clear h1
    go_wp2_with (go_at_call 106;refine (c_spec_l1In _ _ _ _).mono ?_;rintro e w' ⟨rfl,rfl⟩;rw [H1.out])
    go_ret
    exact ⟨ret_bool (by rw [printed,all_at s okByte k hlt (by simp [okByte,H1.out])];rfl),rfl⟩
   ·have H1:=Lib.hid h1
    clear h1
    cases h2:(s[k].toNat:Int) == 35
    ·go_wp2_with (go_at_call 106;refine (c_spec_l1In _ _ _ _).mono ?_;rintro e w' ⟨rfl,rfl⟩;rw [H1.out])
     go_round
     case rel=>exact ⟨k+1,by omega,by go_num,by rw [take_snoc s k hlt,List.all_append,HP.out];simp [okByte,H1.out,h2]⟩
     case measure=>simp [intOf];omega
    ·go_wp2_with (go_at_call 106;refine (c_spec_l1In _ _ _ _).mono ?_;rintro e w' ⟨rfl,rfl⟩;rw [H1.out])
     go_ret
     exact ⟨ret_bool (by rw [printed,all_at s okByte k hlt (by simp [okByte,h2])];rfl),rfl⟩
  ·go_wp2
   go_ret
   exact ⟨ret_bool (by rw [printed,← take_all s k hlt,HP.out];simp [fits]),rfl⟩

set_option maxHeartbeats 400000 in
theorem c_spec_l1Stands (s:ByteArray) (b:Int) (w:World) (hs:s.size≤maxLen) :
 Calls Tryz.prog 236 #[.string s,.int .u8 b] w fun e w'=>e=.returned (.bool (hasByte s b))∧w=w':=by
 unfold maxLen at hs
 go_enter Tryz.func236,Tryz.ntmps236
 go_wp2
 go_loop [5] (fun i=>∃k:Nat,k≤s.size∧i=.int .i64 k∧(s.data.toList.take k).any (fun c=>(c.toNat:Int) == b)=false) (fun i=>s.size - (intOf i).toNat)
 case atStart=>exact ⟨0,Nat.zero_le _,rfl,by simp⟩
 case round=>
  obtain ⟨k,hk,rfl,hp⟩:=hrel
  have HP:=Lib.hid hp
  clear hp
  by_cases hlt:k<s.size
  ·cases h2:(s[k].toNat:Int) == b
   ·go_wp2
    go_round
    case rel=>exact ⟨k+1,by omega,by go_num,by rw [take_snoc s k hlt,List.any_append,HP.out];simp [h2]⟩
    case measure=>simp [intOf];omega
   ·go_wp2
    go_ret
    exact ⟨ret_bool (any_at s _ k hlt (by simp [h2])).symm,rfl⟩
  ·go_wp2
   go_ret
   exact ⟨ret_bool (by rw [hasByte,← take_all s k hlt,HP.out]),rfl⟩

set_option maxHeartbeats 400000 in
theorem c_spec_l13Record (c r:ByteArray) (w:World) (hc:c.size≤maxLen) (hr:r.size≤maxLen) :
 Calls Tryz.prog 226 #[.agg #[.string c,.string r]] w fun e w'=>e=.returned (.bool (recB c r))∧Ext w w':=by
 go_enter Tryz.func226,Tryz.ntmps226
 go_wp2_with (first|(go_at_call 235;refine (c_spec_l13Bytes _ _ _ (by assumption)).mono ?_;rintro e w' ⟨rfl,rfl⟩)|(go_at_call 236;refine (c_spec_l1Stands _ _ _ (by assumption)).mono ?_;rintro e w' ⟨rfl,rfl⟩))
 all_goals (go_ret;refine ⟨ret_bool ?_,(Ext.refl _).alloc _⟩)
 all_goals (rw [recB_spec];unfold someB;rw [← Lib.toList_data];simp_all)
set_option maxHeartbeats 400000 in
theorem c_impl_isCommand (s:ByteArray) (w:World) (hs:s.size≤maxLen) :
 Calls Tryz.prog 259 #[.string s] w fun e w'=>e=.returned (.bool (cmdB s))∧w=w':=by
 have hs':=hs
 unfold maxLen at hs'
 go_enter Tryz.func259,Tryz.ntmps259
 go_wp2_with (first|(go_at_call 55;refine (c_impl_within _ _ _ _).mono ?_;rintro e w' ⟨rfl,rfl⟩)|(go_at_call 260;refine (c_impl_isPrinted _ _ (by assumption)).mono ?_;rintro e w' ⟨rfl,rfl⟩)|(go_at_call 257;refine (contains1 _ 64 _).mono ?_;rintro e w' ⟨rfl,rfl⟩))
 all_goals (go_ret;refine ⟨ret_bool ?_,rfl⟩)
 all_goals simp_all [cmdB]
set_option maxHeartbeats 400000 in
theorem c_impl_IsValidRecord (c r:ByteArray) (w:World) (hc:c.size≤maxLen) (hr:r.size≤maxLen) :
 Calls Tryz.prog 252 #[.agg #[.string c,.string r]] w fun e w'=>e=.returned (.bool (recB c r))∧Ext w w':=by
 go_enter Tryz.func252,Tryz.ntmps252
 go_wp2_with (first|(go_at_call 259;refine (c_impl_isCommand _ _ (by assumption)).mono ?_;rintro e w' ⟨rfl,rfl⟩)|(go_at_call 260;refine (c_impl_isPrinted _ _ (by assumption)).mono ?_;rintro e w' ⟨rfl,rfl⟩))
 all_goals (go_ret;refine ⟨ret_bool ?_,(Ext.refl _).alloc _⟩)
 all_goals (simp_all [recB,fits] <;> omega)
end Go.Proofs.YtccjepndhlobpaaGreatDoor

/-
  Walks: a predicate over a slice.
-/
namespace Go.Proofs.YtccjepndhlobpaaGreatDoor
open Go.RowKit
set_option linter.unusedVariables false
set_option linter.unusedSimpArgs false

theorem any_take_succ {α:Type} (p:α→Bool) (xs:List α) (i:Nat) (h:i<xs.length):(xs.take (i+1)).any p=((xs.take i).any p || p xs[i]):=by
 rw [List.take_succ_eq_append_getElem h,List.any_append,List.any_cons,List.any_nil,Bool.or_false]
theorem any_of {α:Type} (p:α→Bool) (xs:List α) (i:Nat) (h:i<xs.length) (hp:p xs[i]=true):xs.any p=true:=List.any_eq_true.2 ⟨_,List.getElem_mem h,hp⟩

set_option maxHeartbeats 1600000 in
theorem c_slices_IndexFunc_int_int (lo hi:Nat) (p:Int→Bool) (gf:FuncId) (lb:Array Value) (v:Value) (xs:List Int) (w:World) (h:SlV 1 IntP lo hi w v xs) (eg:∀args w,(callFunc gf args).run Tryz.prog w=.ok (.enter gf args) w)
 (hf:∀(i:Nat) (h:i<xs.length) (cs:List Value) (W:World),Ext w W→IntP lo hi W cs xs[i]→Calls Tryz.prog gf (#[.int .i64 xs[i]]++lb) W fun e W'=>e=.returned (.bool (p xs[i]))∧Ext W W') :
 Calls Tryz.prog 164 #[v,.func (.func gf) #[] lb] w fun e w'=>∃r:Int,e=.returned (.int .i64 r)∧decide (0≤r)=xs.any p∧Ext w w':=by
 obtain ⟨a,k,rfl,g1,g2,g3,g4⟩:=h
 unfold maxLen at g2
 go_enter Tryz.func164,Tryz.ntmps164
 go_wp2
 go_loopw [5,8] (fun _ c wr=>∃i:Nat,c=.int .i64 i∧i≤xs.length∧(xs.take i).any p=false∧Ext w wr) (fun _ c _=>xs.length - (intOf c).toNat)
 case atStart=>exact ⟨0,rfl,Nat.zero_le _,rfl,xw⟩
 case round=>
  obtain ⟨i,rfl,hi',hno,hx⟩:=hrel
  by_cases hlt:i<xs.length
  ·rcases g4 with g4|⟨b,o,rfl,gb1,gb2,g4⟩
   ·subst g4;simp at hlt
   ·obtain ⟨cs,hl,hP,hc⟩:=g4 i hlt
    have HP:=IntP.keeps _ _ _ _ _ _ (Same.ext hx) hP
    have HF:=hf i hlt cs wr hx HP
    obtain ⟨rfl,e1⟩:=hP
    have q0:=hx.keep (hc 0 _ rfl)
    rw [Nat.mul_one,Nat.add_zero] at q0
    clear g4 hc hf
    have hsucc:=any_take_succ p xs i hlt
    have hany:=any_of p xs i hlt
    generalize hpv:p xs[i]=pv at HF hsucc hany
    cases pv
    ·go_wp2_with (refine HF.mono ?_;rintro e y ⟨rfl,hb⟩)
     go_roundw
     case rel=>exact ⟨i+1,rfl,by omega,by rw [hsucc,hno];rfl,xw⟩
     ·simp only [intOf];omega
    ·have hA:=Lib.hid (hany rfl)
     clear hany hsucc
     go_wp2_with (refine HF.mono ?_;rintro e y ⟨rfl,hb⟩)
     go_ret
     exact ⟨_,rfl,by rw [hA.out];simp,xw⟩
  ·go_wp2
   go_ret
   rw [List.take_of_length_le (by omega)] at hno
   exact ⟨_,rfl,by rw [hno];rfl,xw⟩
theorem c_slices_ContainsFunc_int_int (lo hi:Nat) (p:Int→Bool) (gf:FuncId) (lb:Array Value) (v:Value) (xs:List Int) (w:World) (h:SlV 1 IntP lo hi w v xs) (eg:∀args w,(callFunc gf args).run Tryz.prog w=.ok (.enter gf args) w)
 (hf:∀(i:Nat) (h:i<xs.length) (cs:List Value) (W:World),Ext w W→IntP lo hi W cs xs[i]→Calls Tryz.prog gf (#[.int .i64 xs[i]]++lb) W fun e W'=>e=.returned (.bool (p xs[i]))∧Ext W W') :
 Calls Tryz.prog 111 #[v,.func (.func gf) #[] lb] w fun e w'=>e=.returned (.bool (xs.any p))∧Ext w w':=by
 have H:=c_slices_IndexFunc_int_int lo hi p gf lb v xs w h eg hf
 clear hf
 generalize xs.any p=r0 at H ⊢
 go_enter Tryz.func111,Tryz.ntmps111
 go_wp2_with (go_at_call 164;refine H.mono ?_;rintro e y ⟨r,rfl,hr,hb⟩)
 all_goals go_ret
 all_goals exact ⟨ret_bool (by simp),xw⟩
set_option maxHeartbeats 1600000 in
theorem c_slices_IndexFunc_impl_Control_impl_Control (lo hi:Nat) (p:Ctl→Bool) (gf:FuncId) (lb:Array Value) (v:Value) (xs:List Ctl) (w:World) (h:SlV 3 CtlP lo hi w v xs) (eg:∀args w,(callFunc gf args).run Tryz.prog w=.ok (.enter gf args) w)
 (hf:∀(i:Nat) (h:i<xs.length) (cs:List Value) (W:World),Ext w W→CtlP lo hi W cs xs[i]→Calls Tryz.prog gf (#[.agg cs.toArray]++lb) W fun e W'=>e=.returned (.bool (p xs[i]))∧Ext W W') :
 Calls Tryz.prog 212 #[v,.func (.func gf) #[] lb] w fun e w'=>∃r:Int,e=.returned (.int .i64 r)∧decide (0≤r)=xs.any p∧Ext w w':=by
 obtain ⟨a,k,rfl,g1,g2,g3,g4⟩:=h
 unfold maxLen at g2
 go_enter Tryz.func212,Tryz.ntmps212
 go_wp2
 go_loopw [5,8] (fun _ c wr=>∃i:Nat,c=.int .i64 i∧i≤xs.length∧(xs.take i).any p=false∧Ext w wr) (fun _ c _=>xs.length - (intOf c).toNat)
 case atStart=>exact ⟨0,rfl,Nat.zero_le _,rfl,xw⟩
 case round=>
  obtain ⟨i,rfl,hi',hno,hx⟩:=hrel
  by_cases hlt:i<xs.length
  ·rcases g4 with g4|⟨b,o,rfl,gb1,gb2,g4⟩
   ·subst g4;simp at hlt
   ·obtain ⟨cs,hl,hP,hc⟩:=g4 i hlt
    have HP:=CtlP.keeps _ _ _ _ _ _ (Same.ext hx) hP
    have HF:=hf i hlt cs wr hx HP
    obtain ⟨rfl,e1,e2,e3⟩:=hP
    have q0:=hx.keep (hc 0 _ rfl)
    have q1:=hx.keep (hc 1 _ rfl)
    have q2:=hx.keep (hc 2 _ rfl)
    rw [Nat.add_zero] at q0
    clear g4 hc hf
    have hsucc:=any_take_succ p xs i hlt
    have hany:=any_of p xs i hlt
    generalize hpv:p xs[i]=pv at HF hsucc hany
    cases pv
    ·go_wp2_with (refine HF.mono ?_;rintro e y ⟨rfl,hb⟩)
     go_roundw
     case rel=>exact ⟨i+1,rfl,by omega,by rw [hsucc,hno];rfl,xw⟩
     ·simp only [intOf];omega
    ·have hA:=Lib.hid (hany rfl)
     clear hany hsucc
     go_wp2_with (refine HF.mono ?_;rintro e y ⟨rfl,hb⟩)
     go_ret
     exact ⟨_,rfl,by rw [hA.out];simp,xw⟩
  ·go_wp2
   go_ret
   rw [List.take_of_length_le (by omega)] at hno
   exact ⟨_,rfl,by rw [hno];rfl,xw⟩
theorem c_slices_ContainsFunc_impl_Control_impl_Control (lo hi:Nat) (p:Ctl→Bool) (gf:FuncId) (lb:Array Value) (v:Value) (xs:List Ctl) (w:World) (h:SlV 3 CtlP lo hi w v xs) (eg:∀args w,(callFunc gf args).run Tryz.prog w=.ok (.enter gf args) w)
 (hf:∀(i:Nat) (h:i<xs.length) (cs:List Value) (W:World),Ext w W→CtlP lo hi W cs xs[i]→Calls Tryz.prog gf (#[.agg cs.toArray]++lb) W fun e W'=>e=.returned (.bool (p xs[i]))∧Ext W W') :
 Calls Tryz.prog 162 #[v,.func (.func gf) #[] lb] w fun e w'=>e=.returned (.bool (xs.any p))∧Ext w w':=by
 have H:=c_slices_IndexFunc_impl_Control_impl_Control lo hi p gf lb v xs w h eg hf
 clear hf
 generalize xs.any p=r0 at H ⊢
 go_enter Tryz.func162,Tryz.ntmps162
 go_wp2_with (go_at_call 212;refine H.mono ?_;rintro e y ⟨r,rfl,hr,hb⟩)
 all_goals go_ret
 all_goals exact ⟨ret_bool (by simp),xw⟩
set_option maxHeartbeats 1600000 in
theorem c_slices_IndexFunc_impl_Wire_impl_Wire (lo hi:Nat) (p:Wr→Bool) (gf:FuncId) (lb:Array Value) (v:Value) (xs:List Wr) (w:World) (h:SlV 2 WrP lo hi w v xs) (eg:∀args w,(callFunc gf args).run Tryz.prog w=.ok (.enter gf args) w)
 (hf:∀(i:Nat) (h:i<xs.length) (cs:List Value) (W:World),Ext w W→WrP lo hi W cs xs[i]→Calls Tryz.prog gf (#[.agg cs.toArray]++lb) W fun e W'=>e=.returned (.bool (p xs[i]))∧Ext W W') :
 Calls Tryz.prog 220 #[v,.func (.func gf) #[] lb] w fun e w'=>∃r:Int,e=.returned (.int .i64 r)∧decide (0≤r)=xs.any p∧Ext w w':=by
 obtain ⟨a,k,rfl,g1,g2,g3,g4⟩:=h
 unfold maxLen at g2
 go_enter Tryz.func220,Tryz.ntmps220
 go_wp2
 go_loopw [5,8] (fun _ c wr=>∃i:Nat,c=.int .i64 i∧i≤xs.length∧(xs.take i).any p=false∧Ext w wr) (fun _ c _=>xs.length - (intOf c).toNat)
 case atStart=>exact ⟨0,rfl,Nat.zero_le _,rfl,xw⟩
 case round=>
  obtain ⟨i,rfl,hi',hno,hx⟩:=hrel
  by_cases hlt:i<xs.length
  ·rcases g4 with g4|⟨b,o,rfl,gb1,gb2,g4⟩
   ·subst g4;simp at hlt
   ·obtain ⟨cs,hl,hP,hc⟩:=g4 i hlt
    have HP:=WrP.keeps _ _ _ _ _ _ (Same.ext hx) hP
    have HF:=hf i hlt cs wr hx HP
    obtain ⟨rfl,e1,e2⟩:=hP
    have q0:=hx.keep (hc 0 _ rfl)
    have q1:=hx.keep (hc 1 _ rfl)
    rw [Nat.add_zero] at q0
    clear g4 hc hf
    have hsucc:=any_take_succ p xs i hlt
    have hany:=any_of p xs i hlt
    generalize hpv:p xs[i]=pv at HF hsucc hany
    cases pv
    ·go_wp2_with (refine HF.mono ?_;rintro e y ⟨rfl,hb⟩)
     go_roundw
     case rel=>exact ⟨i+1,rfl,by omega,by rw [hsucc,hno];rfl,xw⟩
     ·simp only [intOf];omega
    ·have hA:=Lib.hid (hany rfl)
     clear hany hsucc
     go_wp2_with (refine HF.mono ?_;rintro e y ⟨rfl,hb⟩)
     go_ret
     exact ⟨_,rfl,by rw [hA.out];simp,xw⟩
  ·go_wp2
   go_ret
   rw [List.take_of_length_le (by omega)] at hno
   exact ⟨_,rfl,by rw [hno];rfl,xw⟩
theorem c_slices_ContainsFunc_impl_Wire_impl_Wire (lo hi:Nat) (p:Wr→Bool) (gf:FuncId) (lb:Array Value) (v:Value) (xs:List Wr) (w:World) (h:SlV 2 WrP lo hi w v xs) (eg:∀args w,(callFunc gf args).run Tryz.prog w=.ok (.enter gf args) w)
 (hf:∀(i:Nat) (h:i<xs.length) (cs:List Value) (W:World),Ext w W→WrP lo hi W cs xs[i]→Calls Tryz.prog gf (#[.agg cs.toArray]++lb) W fun e W'=>e=.returned (.bool (p xs[i]))∧Ext W W') :
 Calls Tryz.prog 184 #[v,.func (.func gf) #[] lb] w fun e w'=>e=.returned (.bool (xs.any p))∧Ext w w':=by
 have H:=c_slices_IndexFunc_impl_Wire_impl_Wire lo hi p gf lb v xs w h eg hf
 clear hf
 generalize xs.any p=r0 at H ⊢
 go_enter Tryz.func184,Tryz.ntmps184
 go_wp2_with (go_at_call 220;refine H.mono ?_;rintro e y ⟨r,rfl,hr,hb⟩)
 all_goals go_ret
 all_goals exact ⟨ret_bool (by simp),xw⟩
set_option maxHeartbeats 1600000 in
theorem c_slices_IndexFunc_impl_Rule_impl_Rule (lo hi:Nat) (p:Rul→Bool) (gf:FuncId) (lb:Array Value) (v:Value) (xs:List Rul) (w:World) (h:SlV 13 RulP lo hi w v xs) (eg:∀args w,(callFunc gf args).run Tryz.prog w=.ok (.enter gf args) w)
 (hf:∀(i:Nat) (h:i<xs.length) (cs:List Value) (W:World),Ext w W→RulP lo hi W cs xs[i]→Calls Tryz.prog gf (#[.agg cs.toArray]++lb) W fun e W'=>e=.returned (.bool (p xs[i]))∧Ext W W') :
 Calls Tryz.prog 166 #[v,.func (.func gf) #[] lb] w fun e w'=>∃r:Int,e=.returned (.int .i64 r)∧decide (0≤r)=xs.any p∧Ext w w':=by
 obtain ⟨a,k,rfl,g1,g2,g3,g4⟩:=h
 unfold maxLen at g2
 go_enter Tryz.func166,Tryz.ntmps166
 go_wp2
 go_loopw [5,8] (fun _ c wr=>∃i:Nat,c=.int .i64 i∧i≤xs.length∧(xs.take i).any p=false∧Ext w wr) (fun _ c _=>xs.length - (intOf c).toNat)
 case atStart=>exact ⟨0,rfl,Nat.zero_le _,rfl,xw⟩
 case round=>
  obtain ⟨i,rfl,hi',hno,hx⟩:=hrel
  by_cases hlt:i<xs.length
  ·rcases g4 with g4|⟨b,o,rfl,gb1,gb2,g4⟩
   ·subst g4;simp at hlt
   ·obtain ⟨cs,hl,hP,hc⟩:=g4 i hlt
    have HP:=RulP.keeps _ _ _ _ _ _ (Same.ext hx) hP
    have HF:=hf i hlt cs wr hx HP
    obtain ⟨c1,c2,v,rfl,⟨v1,v2,v4,v5,rfl,_⟩,⟨y1,y2,y4,y5,rfl,_⟩,eC⟩:=hP
    have q0:=hx.keep (hc 0 _ rfl)
    have q1:=hx.keep (hc 1 _ rfl)
    have q2:=hx.keep (hc 2 _ rfl)
    have q3:=hx.keep (hc 3 _ rfl)
    have q4:=hx.keep (hc 4 _ rfl)
    have q5:=hx.keep (hc 5 _ rfl)
    have q6:=hx.keep (hc 6 _ rfl)
    have q7:=hx.keep (hc 7 _ rfl)
    have q8:=hx.keep (hc 8 _ rfl)
    have q9:=hx.keep (hc 9 _ rfl)
    have q10:=hx.keep (hc 10 _ rfl)
    have q11:=hx.keep (hc 11 _ rfl)
    have q12:=hx.keep (hc 12 _ rfl)
    rw [Nat.add_zero] at q0
    clear g4 hc hf
    have hsucc:=any_take_succ p xs i hlt
    have hany:=any_of p xs i hlt
    generalize hpv:p xs[i]=pv at HF hsucc hany
    cases pv
    ·go_wp2_with (refine HF.mono ?_;rintro e y ⟨rfl,hb⟩)
     go_roundw
     case rel=>exact ⟨i+1,rfl,by omega,by rw [hsucc,hno];rfl,xw⟩
     ·simp only [intOf];omega
    ·have hA:=Lib.hid (hany rfl)
     clear hany hsucc
     go_wp2_with (refine HF.mono ?_;rintro e y ⟨rfl,hb⟩)
     go_ret
     exact ⟨_,rfl,by rw [hA.out];simp,xw⟩
  ·go_wp2
   go_ret
   rw [List.take_of_length_le (by omega)] at hno
   exact ⟨_,rfl,by rw [hno];rfl,xw⟩
theorem c_slices_ContainsFunc_impl_Rule_impl_Rule (lo hi:Nat) (p:Rul→Bool) (gf:FuncId) (lb:Array Value) (v:Value) (xs:List Rul) (w:World) (h:SlV 13 RulP lo hi w v xs) (eg:∀args w,(callFunc gf args).run Tryz.prog w=.ok (.enter gf args) w)
 (hf:∀(i:Nat) (h:i<xs.length) (cs:List Value) (W:World),Ext w W→RulP lo hi W cs xs[i]→Calls Tryz.prog gf (#[.agg cs.toArray]++lb) W fun e W'=>e=.returned (.bool (p xs[i]))∧Ext W W') :
 Calls Tryz.prog 115 #[v,.func (.func gf) #[] lb] w fun e w'=>e=.returned (.bool (xs.any p))∧Ext w w':=by
 have H:=c_slices_IndexFunc_impl_Rule_impl_Rule lo hi p gf lb v xs w h eg hf
 clear hf
 generalize xs.any p=r0 at H ⊢
 go_enter Tryz.func115,Tryz.ntmps115
 go_wp2_with (go_at_call 166;refine H.mono ?_;rintro e y ⟨r,rfl,hr,hb⟩)
 all_goals go_ret
 all_goals exact ⟨ret_bool (by simp),xw⟩
end Go.Proofs.YtccjepndhlobpaaGreatDoor

/-
  Walks: names.
-/
namespace Go.Proofs.YtccjepndhlobpaaGreatDoor
open Go.RowKit
set_option linter.unusedVariables false
set_option linter.unusedSimpArgs false

/-- A small letter. -/
def lowA (c:UInt8):Bool:=inR (c.toNat:Int) 97 122
/-- A name. -/
def nameB (s:ByteArray):Bool:=inR (s.size:Int) 1 4 && s.data.toList.all lowA
def abcL:List UInt8:=[97,98,99,100,101,102,103,104,105,106,107,108,109,110,111,112,113,114,115,116,117,118,119,120,121,122]
theorem abc_fin:∀n:Fin 256,abcL.contains (UInt8.ofNat n.val)=lowA (UInt8.ofNat n.val):=by decide +kernel
theorem abc_low (c:UInt8):abcL.contains c=lowA c:=by
 have h:=abc_fin ⟨c.toNat,c.toNat_lt⟩
 simpa using h
theorem dropWhile_nil (p:UInt8→Bool):∀l:List UInt8,l.dropWhile p = []↔l.all p=true:=by
 intro l
 induction l with
 | nil=>simp
 | cons x l ih=>
  rw [List.dropWhile_cons,List.all_cons]
  cases hx:p x
  ·simp
  ·simp only [if_true,Bool.true_and]
   exact ih
theorem dropWhile_all (p:UInt8→Bool):∀l:List UInt8,(l.dropWhile p).all p=true→l.all p=true:=by
 intro l
 induction l with
 | nil=>intro h;rfl
 | cons x l ih=>
  rw [List.dropWhile_cons]
  cases hx:p x
  ·simp [hx]
  ·simp only [if_true,List.all_cons,hx,Bool.true_and]
   exact ih
theorem trim_nil (l:List UInt8):(Lib.trimS l abcL = [])↔l.all lowA=true:=by
 have e:(fun c=>abcL.contains c)=lowA:=funext abc_low
 unfold Lib.trimS Lib.trimLeftS Lib.trimRightS
 show List.dropWhile (fun c=>abcL.contains c) ((List.dropWhile (fun c=>abcL.contains c) l.reverse).reverse) = []↔_
 rw [e,dropWhile_nil,List.all_reverse]
 constructor
 ·intro h
  have:=dropWhile_all lowA _ h
  rwa [List.all_reverse] at this
 ·intro h
  have h2:List.dropWhile lowA l.reverse = []:=(dropWhile_nil lowA _).2 (by rw [List.all_reverse];exact h)
  rw [h2];rfl
theorem trim_empty (s:ByteArray):(⟨(Lib.trimS s.data.toList abcL).toArray⟩:ByteArray).toList.isEmpty=s.data.toList.all lowA:=by
 rw [Lib.toList_data]
 show (Lib.trimS s.data.toList abcL).toArray.toList.isEmpty=_
 rw [List.toList_toArray]
 rw [Bool.eq_iff_iff,List.isEmpty_iff]
 exact trim_nil _
attribute [local irreducible] inR
set_option maxRecDepth 100000 in
set_option maxHeartbeats 800000 in
theorem c_impl_isName (s:ByteArray) (w:World) (hs:s.size≤maxLen) :
 Calls Tryz.prog 56 #[.string s] w fun e w'=>e=.returned (.bool (nameB s))∧Ext w w':=by
 have hs':=hs
 unfold maxLen at hs'
 have HT:=Any.strings_Trim_laid Tryz.lays160 (by kernel_rfl) s ⟨abcL.toArray⟩ w (by omega) (by decide) (ascii_of_all (by decide))
 change Calls Tryz.prog 118 _ _ _ at HT
 have HE:=Lib.hid (trim_empty s)
 unfold nameB
 cases h1:inR (s.size:Int) 1 4
 ·have H1:=Lib.hid h1
  clear h1
  go_enter Tryz.func56,Tryz.ntmps56
  go_wp2_with (go_at_call 55;refine (c_impl_within _ _ _ _).mono ?_;rintro e w' ⟨rfl,rfl⟩;rw [H1.out])
  go_ret
  exact ⟨rfl,xw⟩
 ·have H1:=Lib.hid h1
  clear h1
  have HE2:Hid ((⟨(Lib.trimS s.data.toList abcL).toArray⟩:ByteArray).toList.isEmpty=s.data.toList.all lowA):=HE
  generalize hT:(⟨(Lib.trimS s.data.toList abcL).toArray⟩:ByteArray)=T at HE2
  have HT2:Calls Tryz.prog 118 #[.string s,.string ⟨abcL.toArray⟩] w fun e w'=>e=.returned (.string T)∧Ext w w':=HT.mono fun e w' ⟨h,k⟩=>⟨by rw [h,← hT],k⟩
  clear HT HE hT
  go_enter Tryz.func56,Tryz.ntmps56
  go_wp2_with (first|(go_at_call 55;refine (c_impl_within _ _ _ _).mono ?_;rintro e w' ⟨rfl,rfl⟩;rw [H1.out])|(go_at_call 118;refine HT2.mono ?_;rintro e y ⟨rfl,hb⟩))
  go_ret
  exact ⟨ret_bool (by first|exact HE2.out|simpa using HE2.out),xw⟩
set_option maxHeartbeats 800000 in
theorem c_spec_l2Name (s:ByteArray) (w:World) (hs:s.size≤maxLen) :
 Calls Tryz.prog 154 #[.string s] w fun e w'=>e=.returned (.bool (nameB s))∧Ext w w':=by
 unfold maxLen at hs
 have hlo:∀c:UInt8,lowA c=(decide (97≤(c.toNat:Int)) && decide ((c.toNat:Int)≤122)):=fun c=>by unfold lowA inR;rfl
 go_enter Tryz.func154,Tryz.ntmps154
 go_wp2
 go_loopw [3] (fun c wr=>∃k:Nat,k≤s.size∧c=.int .i64 k∧(s.data.toList.take k).all lowA=true∧Ext w wr) (fun c _=>s.size - (intOf c).toNat)
 case atStart=>exact ⟨0,Nat.zero_le _,rfl,by simp,xw⟩
 case round=>
  obtain ⟨k,hk,rfl,hp,hx⟩:=hrel
  have HP:=Lib.hid hp
  clear hp
  by_cases hlt:k<s.size
  ·have hb:=byte_lt s k hlt
   have hsn:=Lib.hid (take_snoc s k hlt)
   have hat:=Lib.hid (all_at s lowA k hlt)
   have hl:=Lib.hid (hlo s[k])
   clear hlo
   by_cases h1:(s[k].toNat:Int)<97
   ·go_wp2
    go_ret
    exact ⟨ret_bool (by unfold nameB;rw [hat.out (by rw [hl.out];simp;omega),Bool.and_false]),xw⟩
   ·by_cases h2:(122:Int)<(s[k].toNat:Int)
    ·go_wp2
     go_ret
     exact ⟨ret_bool (by unfold nameB;rw [hat.out (by rw [hl.out];simp;omega),Bool.and_false]),xw⟩
    ·go_wp2
     go_roundw
     case rel=>exact ⟨k+1,by omega,rfl,by rw [hsn.out,List.all_append,HP.out,List.all_cons,hl.out];simp;omega,xw⟩
     ·simp only [intOf];omega
  ·have hta:=Lib.hid (take_all s k hlt)
   go_wp2_with (go_at_call 106;refine (c_spec_l1In _ _ _ _).mono ?_;rintro e w' ⟨rfl,rfl⟩)
   go_ret
   exact ⟨ret_bool (by unfold nameB;rw [← hta.out,HP.out,Bool.and_true]),xw⟩
end Go.Proofs.YtccjepndhlobpaaGreatDoor

/-
  Walks: signatures.
-/
namespace Go.Proofs.YtccjepndhlobpaaGreatDoor
open Go.RowKit
set_option linter.unusedVariables false
set_option linter.unusedSimpArgs false
attribute [local irreducible] inR nameB

/-- Two texts are one. -/
def strEq (a b:ByteArray):Bool:=a.toList == b.toList
def ctlB (c:Ctl):Bool:=nameB c.name && (inR c.ports 0 3 && inR c.kind 0 2)
def freshB (l:List Ctl) (i:Nat) (c:Ctl):Bool:=!(l.take i).any (fun d=>strEq d.name c.name)
def ctlOk (l:List Ctl) (i:Nat):Bool:=match l[i]? with|none=>true|some c=>ctlB c && freshB l i c
/-- A signature is valid. -/
def sigB (l:List Ctl):Bool:=inR (l.length:Int) 1 6 && (List.range l.length).all (ctlOk l)
theorem range_all_succ (f:Nat→Bool) (i:Nat):(List.range (i+1)).all f=((List.range i).all f && f i):=by
 rw [List.range_succ,List.all_append];simp
theorem range_all_bad (f:Nat→Bool) (n i:Nat) (h:i<n) (hf:f i=false):(List.range n).all f=false:=by
 rw [List.all_eq_false]
 exact ⟨i,List.mem_range.2 h,by simp [hf]⟩
theorem ctlOk_at (l:List Ctl) (i:Nat) (h:i<l.length):ctlOk l i=(ctlB l[i] && freshB l i l[i]):=by
 unfold ctlOk;rw [List.getElem?_eq_getElem h]
theorem sigB_bad (l:List Ctl) (i:Nat) (h:i<l.length) (hb:ctlOk l i=false):sigB l=false:=by
 unfold sigB;rw [range_all_bad _ _ i h hb,Bool.and_false]
/-- A slice's beginning. -/
theorem SlV.take {α:Type} {P:Lie α} {size lo hi:Nat} {w:World} {a:Option Addr} {n k:Nat} {xs:List α} (h:SlV size P lo hi w (.slice a n k) xs) (i:Nat) (hi':i≤xs.length):SlV size P lo hi w (.slice a i k) (xs.take i):=by
 obtain ⟨a',k',e,g1,g2,g3,g4⟩:=h
 simp only [Value.slice.injEq] at e
 obtain ⟨rfl,rfl,rfl⟩:=e
 have hl:(xs.take i).length=i:=by rw [List.length_take];omega
 refine ⟨a,k,by rw [hl],by omega,g2,g3,?_⟩
 rcases g4 with g4|⟨b,o,rfl,h1,h2,g4⟩
 ·left;rw [g4];simp
 ·refine .inr ⟨b,o,rfl,h1,h2,fun j hj=>?_⟩
  obtain ⟨cs,c1,c2,c3⟩:=g4 j (by omega)
  exact ⟨cs,c1,by rw [List.getElem_take];exact c2,c3⟩
theorem c_impl_IsSignature_1 (lo hi B:Nat) (cs:List Value) (d:Ctl) (nm:ByteArray) (W:World) (hP:CtlP lo hi W cs d) (hc:W.cell? ⟨B,0,none⟩=some (.string nm)) :
 Calls Tryz.prog 163 #[.agg cs.toArray,.pointer (some ⟨B,0,none⟩)] W fun e W'=>e=.returned (.bool (strEq d.name nm))∧Ext W W':=by
 obtain ⟨rfl,e1,e2,e3⟩:=hP
 have hB:=World.block_lt_of_cell? W ⟨B,0,none⟩ hc
 have hne:¬B=W.heap.size:=by simp at hB;omega
 unfold strEq
 go_enter Tryz.func163,Tryz.ntmps163
 go_wp2
 go_ret
 exact ⟨rfl,xw⟩
set_option maxRecDepth 100000 in
set_option maxHeartbeats 1600000 in
theorem c_impl_IsSignature (lo hi:Nat) (v:Value) (l:List Ctl) (w:World) (h:CtlsV lo hi w v l) :
 Calls Tryz.prog 109 #[v] w fun e w'=>e=.returned (.bool (sigB l))∧Ext w w':=by
 have hV:=h
 obtain ⟨a,k,rfl,g1,g2,g3,g4⟩:=h
 unfold maxLen at g2
 cases h1:inR (l.length:Int) 1 6
 ·have H1:=Lib.hid h1
  clear h1
  go_enter Tryz.func109,Tryz.ntmps109
  go_wp2_with (go_at_call 55;refine (c_impl_within _ _ _ _).mono ?_;rintro e w' ⟨rfl,rfl⟩;rw [H1.out])
  go_ret
  exact ⟨ret_bool (by unfold sigB;rw [H1.out];rfl),xw⟩
 ·have H1:=Lib.hid h1
  clear h1
  go_enter Tryz.func109,Tryz.ntmps109
  go_wp2_with (go_at_call 55;refine (c_impl_within _ _ _ _).mono ?_;rintro e w' ⟨rfl,rfl⟩;rw [H1.out])
  go_loopw [11] (fun c wr=>∃i:Nat,c=.int .i64 i∧i≤l.length∧(List.range i).all (ctlOk l)=true∧Ext w wr) (fun c _=>l.length - (intOf c).toNat)
  case atStart=>exact ⟨0,rfl,Nat.zero_le _,rfl,xw⟩
  case round=>
   obtain ⟨i,rfl,hi',hok,hx⟩:=hrel
   have HOK:=Lib.hid hok
   clear hok
   by_cases hlt:i<l.length
   ·rcases g4 with g4|⟨b,o,rfl,gb1,gb2,g4⟩
    ·subst g4;simp at hlt
    ·obtain ⟨cs,hl,hP,hc⟩:=g4 i hlt
     have hbad:=sigB_bad l i hlt
     have hat:=ctlOk_at l i hlt
     have hsucc:=range_all_succ (ctlOk l) i
     have HV:=hV.keeps CtlP.keeps (Same.ext hx)
     have HT:=HV.take i (by omega)
     obtain ⟨rfl,e1,e2,e3⟩:=hP
     have q0:=hx.keep (hc 0 _ rfl)
     have q1:=hx.keep (hc 1 _ rfl)
     have q2:=hx.keep (hc 2 _ rfl)
     rw [Nat.add_zero] at q0
     clear g4 hc hV
     have hcb:ctlB l[i]=(nameB l[i].name && (inR l[i].ports 0 3 && inR l[i].kind 0 2)):=rfl
     generalize hn:nameB l[i].name=n1 at hcb
     generalize hp2:inR l[i].ports 0 3=n2 at hcb
     generalize hp3:inR l[i].kind 0 2=n3 at hcb
     have hfr:freshB l i l[i] = !((l.take i).any (fun d=>strEq d.name l[i].name)):=rfl
     generalize hp4:(l.take i).any (fun d=>strEq d.name l[i].name)=n4 at hfr
     have HA:=Lib.hid hat
     have HC:=Lib.hid hcb
     have HF:=Lib.hid hfr
     have HS:=Lib.hid hsucc
     have H2:=Lib.hid hp2
     have H3:=Lib.hid hp3
     have H4:=Lib.hid hp4
     clear hat hcb hfr hsucc hp2 hp3 hp4
     go_wp2_with fail
     refine (c_impl_isName _ _ e1).mono ?_
     rintro e y ⟨rfl,hb⟩
     rw [hn]
     clear hn
     have p0:=hb.keep (p:=⟨wr.heap.size,0,none⟩) (v:=.string l[i].name) (by simp)
     have p1:=hb.keep (p:=⟨wr.heap.size,1,none⟩) (v:=.int .i64 l[i].ports) (by simp)
     have p2:=hb.keep (p:=⟨wr.heap.size,2,none⟩) (v:=.int .i64 l[i].kind) (by simp)
     have hy:Ext wr y:=xw
     have HT':=HT.keeps CtlP.keeps (Same.ext hy)
     have hbad':n1=false∨n2=false∨n3=false∨n4=true→sigB l=false:=fun hh=>hbad (by rw [HA.out,HC.out,HF.out];rcases hh with rfl|rfl|rfl|rfl <;> simp)
     cases n1
     ·have HB:=Lib.hid (hbad' (.inl rfl))
      go_wp2
      go_ret
      exact ⟨ret_bool HB.out.symm,xw⟩
     ·cases n2
      ·have HB:=Lib.hid (hbad' (.inr (.inl rfl)))
       go_wp2_with (go_at_call 55;refine (c_impl_within _ _ _ _).mono ?_;rintro e w' ⟨rfl,rfl⟩;rw [H2.out])
       go_ret
       exact ⟨ret_bool HB.out.symm,xw⟩
      ·cases n3
       ·have HB:=Lib.hid (hbad' (.inr (.inr (.inl rfl))))
        go_wp2_with (go_at_call 55;refine (c_impl_within _ _ _ _).mono ?_;rintro e w' ⟨rfl,rfl⟩;first|rw [H2.out]|rw [H3.out])
        go_ret
        exact ⟨ret_bool HB.out.symm,xw⟩
       ·have hHB:=Lib.hid (fun h4=>hbad' (.inr (.inr (.inr h4))))
        have eg:∀args w,(callFunc 163 args).run Tryz.prog w=.ok (.enter 163 args) w:=enters_of Tryz.func163 (by kernel_rfl) rfl
        have HCF:=c_slices_ContainsFunc_impl_Control_impl_Control lo hi (fun d=>strEq d.name l[i].name) 163 #[.pointer (some ⟨wr.heap.size,0,none⟩)] _ _ y HT' eg (fun j hj cs W hW hPW=>c_impl_IsSignature_1 lo hi wr.heap.size cs _ l[i].name W hPW (hW.keep p0))
        rw [H4.out] at HCF
        clear hbad hbad' eg
        cases n4
        ·go_wp2_with (first|(go_at_call 55;refine (c_impl_within _ _ _ _).mono ?_;rintro e w' ⟨rfl,rfl⟩;first|rw [H2.out]|rw [H3.out])|(go_at_call 162;refine HCF.mono ?_;rintro e y2 ⟨rfl,hb2⟩))
         go_roundw
         case rel=>exact ⟨i+1,rfl,by omega,by rw [HS.out,HOK.out,HA.out,HC.out,HF.out];rfl,xw⟩
         ·simp only [intOf];omega
        ·have HB:=Lib.hid (hHB.out rfl)
         go_wp2_with (first|(go_at_call 55;refine (c_impl_within _ _ _ _).mono ?_;rintro e w' ⟨rfl,rfl⟩;first|rw [H2.out]|rw [H3.out])|(go_at_call 162;refine HCF.mono ?_;rintro e y2 ⟨rfl,hb2⟩))
         go_ret
         exact ⟨ret_bool HB.out.symm,xw⟩
   ·go_wp2
    go_ret
    have e:i=l.length:=by omega
    subst e
    exact ⟨ret_bool (by unfold sigB;rw [H1.out,HOK.out];rfl),xw⟩
set_option maxRecDepth 100000 in
set_option maxHeartbeats 1600000 in
theorem c_spec_l2Sig (lo hi:Nat) (v:Value) (l:List Ctl) (w:World) (h:CtlsV lo hi w v l) :
 Calls Tryz.prog 148 #[v] w fun e w'=>e=.returned (.bool (sigB l))∧Ext w w':=by
 obtain ⟨a,k,rfl,g1,g2,g3,g4⟩:=h
 unfold maxLen at g2
 go_enter Tryz.func148,Tryz.ntmps148
 go_wp2
 go_loopw [3] (fun c wr=>∃i:Nat,c=.int .i64 i∧i≤l.length∧(List.range i).all (ctlOk l)=true∧Ext w wr) (fun c _=>l.length - (intOf c).toNat)
 case atStart=>exact ⟨0,rfl,Nat.zero_le _,rfl,xw⟩
 case round=>
  obtain ⟨i,rfl,hi',hok,hx⟩:=hrel
  have HOK:=Lib.hid hok
  clear hok
  by_cases hlt:i<l.length
  ·rcases g4 with g4|⟨b,o,rfl,gb1,gb2,g4⟩
   ·subst g4;simp at hlt
   ·have hbad:=sigB_bad l i hlt
    have hat:=ctlOk_at l i hlt
    have hsucc:=range_all_succ (ctlOk l) i
    obtain ⟨cs,hl,hP,hc⟩:=g4 i hlt
    obtain ⟨rfl,e1,e2,e3⟩:=hP
    have q0:=hx.keep (hc 0 _ rfl)
    have q1:=hx.keep (hc 1 _ rfl)
    have q2:=hx.keep (hc 2 _ rfl)
    rw [Nat.add_zero] at q0
    clear hc
    have hcb:ctlB l[i]=(nameB l[i].name && (inR l[i].ports 0 3 && inR l[i].kind 0 2)):=rfl
    generalize hn:nameB l[i].name=n1 at hcb
    generalize hp2:inR l[i].ports 0 3=n2 at hcb
    generalize hp3:inR l[i].kind 0 2=n3 at hcb
    have hfr:freshB l i l[i] = !((l.take i).any (fun d=>strEq d.name l[i].name)):=rfl
    generalize hp4:(l.take i).any (fun d=>strEq d.name l[i].name)=n4 at hfr
    have HA:=Lib.hid hat
    have HC:=Lib.hid hcb
    have HF:=Lib.hid hfr
    have HS:=Lib.hid hsucc
    have H2:=Lib.hid hp2
    have H3:=Lib.hid hp3
    have H4:=Lib.hid hp4
    clear hat hcb hfr hsucc hp2 hp3 hp4
    have hbad':n1=false∨n2=false∨n3=false∨n4=true→sigB l=false:=fun hh=>hbad (by rw [HA.out,HC.out,HF.out];rcases hh with rfl|rfl|rfl|rfl <;> simp)
    go_wp2_with fail
    refine (c_spec_l2Name _ _ e1).mono ?_
    rintro e y ⟨rfl,hb⟩
    rw [hn]
    clear hn
    replace q0:=hb.keep q0
    replace q1:=hb.keep q1
    replace q2:=hb.keep q2
    have hy:=hx.trans hb
    cases n1
    ·have HB:=Lib.hid (hbad' (.inl rfl))
     go_wp2
     go_ret
     exact ⟨ret_bool HB.out.symm,xw⟩
    ·cases n2
     ·have HB:=Lib.hid (hbad' (.inr (.inl rfl)))
      go_wp2_with (go_at_call 106;refine (c_spec_l1In _ _ _ _).mono ?_;rintro e w' ⟨rfl,rfl⟩;rw [H2.out])
      go_ret
      exact ⟨ret_bool HB.out.symm,xw⟩
     ·cases n3
      ·have HB:=Lib.hid (hbad' (.inr (.inr (.inl rfl))))
       go_wp2_with (go_at_call 106;refine (c_spec_l1In _ _ _ _).mono ?_;rintro e w' ⟨rfl,rfl⟩;first|rw [H2.out]|rw [H3.out])
       go_ret
       exact ⟨ret_bool HB.out.symm,xw⟩
      ·have hHB:=Lib.hid (fun h4=>hbad' (.inr (.inr (.inr h4))))
       clear hbad hbad'
       go_wp2_with (go_at_call 106;refine (c_spec_l1In _ _ _ _).mono ?_;rintro e w' ⟨rfl,rfl⟩;first|rw [H2.out]|rw [H3.out])
       go_loopw [4] (fun c wz=>∃j:Nat,c=.int .i64 j∧j≤i∧(l.take j).any (fun d=>strEq d.name l[i].name)=false∧Ext y wz) (fun c _=>i - (intOf c).toNat)
       case atStart=>exact ⟨0,rfl,Nat.zero_le _,rfl,Ext.refl _⟩
       case round=>
        obtain ⟨j,rfl,hj',hno,hxz⟩:=hrel
        have HNO:=Lib.hid hno
        clear hno
        by_cases hji:j<i
        ·obtain ⟨ds,hdl,hD,hd⟩:=g4 j (by omega)
         obtain ⟨rfl,d1,d2,d3⟩:=hD
         have r0:=hxz.keep (hy.keep (hd 0 _ rfl))
         rw [Nat.add_zero] at r0
         have s0:=hxz.keep q0
         have hats:=Lib.hid (any_take_succ (fun d:Ctl=>strEq d.name l[i].name) l j (by omega))
         have hany:strEq l[j].name l[i].name=true→n4=true:=fun hh=>by
          rw [← H4.out]
          refine any_of _ _ j (by rw [List.length_take];omega) ?_
          rw [List.getElem_take];exact hh
         have HANY:=Lib.hid hany
         clear hany hd
         have hse:strEq l[j].name l[i].name=(l[j].name.toList == l[i].name.toList):=rfl
         cases hst:(l[j].name.toList == l[i].name.toList)
         ·rw [hst] at hse
          have HSE:=Lib.hid hse
          clear hse
          go_wp2_with (go_quiet (fail))
          go_roundw
          case rel=>exact ⟨j+1,rfl,by omega,by rw [hats.out,HNO.out];exact HSE.out,xw⟩
          ·simp only [intOf];omega
         ·rw [hst] at hse
          have HB:=Lib.hid (hHB.out (HANY.out hse))
          clear hse
          go_wp2_with (go_quiet (fail))
          go_ret
          exact ⟨ret_bool HB.out.symm,xw⟩
        ·have e:j=i:=by omega
         subst e
         have hn4:n4=false:=by rw [← H4.out];exact HNO.out
         subst hn4
         go_wp2
         go_roundw
         case rel=>exact ⟨j+1,rfl,by omega,by rw [HS.out,HOK.out,HA.out,HC.out,HF.out];rfl,xw⟩
         ·simp only [intOf];omega
  ·have e:i=l.length:=by omega
   subst e
   go_wp2_with (go_at_call 106;refine (c_spec_l1In _ _ _ _).mono ?_;rintro e w' ⟨rfl,rfl⟩)
   go_ret
   exact ⟨ret_bool (by unfold sigB;rw [HOK.out,Bool.and_true]),xw⟩
end Go.Proofs.YtccjepndhlobpaaGreatDoor

/-
  Walks: rising numbers.
-/
namespace Go.Proofs.YtccjepndhlobpaaGreatDoor
open Go.RowKit
set_option linter.unusedVariables false
set_option linter.unusedSimpArgs false
attribute [local irreducible] inR nameB

def riseOk (a b:Int) (l:List Int) (i:Nat):Bool:=match l[i]? with|none=>true|some x=>inR x a b && (decide (i=0) || decide (l.getD (i - 1) 0<x))
/-- Numbers rise within bounds. -/
def riseB (a b:Int) (l:List Int):Bool:=(List.range l.length).all (riseOk a b l)
theorem riseOk_at (a b:Int) (l:List Int) (i:Nat) (h:i<l.length):riseOk a b l i=(inR l[i] a b && (decide (i=0) || decide (l.getD (i - 1) 0<l[i]))):=by
 unfold riseOk;rw [List.getElem?_eq_getElem h]
theorem riseB_bad (a b:Int) (l:List Int) (i:Nat) (h:i<l.length) (hb:riseOk a b l i=false):riseB a b l=false:=range_all_bad _ _ i h hb
set_option maxHeartbeats 1600000 in
theorem c_impl_isRising (lo hi:Nat) (v:Value) (l:List Int) (below:Int) (w:World) (h:IntsV lo hi w v l) (hb0:0≤below) (hb1:below≤1000000) :
 Calls Tryz.prog 110 #[v,.int .i64 below] w fun e w'=>e=.returned (.bool (riseB 0 (below - 1) l))∧Ext w w':=by
 obtain ⟨a,k,rfl,g1,g2,g3,g4⟩:=h
 unfold maxLen at g2
 go_enter Tryz.func110,Tryz.ntmps110
 go_wp2
 go_loopw [9] (fun c wr=>∃i:Nat,c=.int .i64 i∧i≤l.length∧(List.range i).all (riseOk 0 (below - 1) l)=true∧Ext w wr) (fun c _=>l.length - (intOf c).toNat)
 case atStart=>exact ⟨0,rfl,Nat.zero_le _,rfl,xw⟩
 case round=>
  obtain ⟨i,rfl,hi',hok,hx⟩:=hrel
  have HOK:=Lib.hid hok
  clear hok
  by_cases hlt:i<l.length
  ·rcases g4 with g4|⟨b,o,rfl,gb1,gb2,g4⟩
   ·subst g4;simp at hlt
   ·have hbad:=riseB_bad 0 (below - 1) l i hlt
    have hat:=riseOk_at 0 (below - 1) l i hlt
    have hsucc:=range_all_succ (riseOk 0 (below - 1) l) i
    obtain ⟨cs,hl,⟨rfl,e1⟩,hc⟩:=g4 i hlt
    have q0:=hx.keep (hc 0 _ rfl)
    rw [Nat.mul_one,Nat.add_zero] at q0
    clear hc
    unfold I64 at e1
    have HA:=Lib.hid hat
    have HS:=Lib.hid hsucc
    clear hat hsucc
    cases h1:inR l[i] 0 (below - 1)
    ·have HB:=Lib.hid (hbad (by rw [HA.out,h1];rfl))
     have H1:=Lib.hid h1
     clear h1 hbad
     go_wp2_with (go_at_call 55;refine (c_impl_within _ _ _ _).mono ?_;rintro e w' ⟨rfl,rfl⟩;rw [H1.out])
     go_ret
     exact ⟨ret_bool HB.out.symm,xw⟩
    ·have H1:=Lib.hid h1
     clear h1
     by_cases hi0:i=0
     ·subst hi0
      simp only [Nat.add_zero] at q0
      go_wp2_with (go_at_call 55;refine (c_impl_within _ _ _ _).mono ?_;rintro e w' ⟨rfl,rfl⟩;rw [H1.out])
      go_roundw
      case rel=>exact ⟨1,rfl,by omega,by rw [HS.out,HOK.out,HA.out,H1.out];rfl,xw⟩
      ·simp only [intOf];omega
     ·obtain ⟨j,rfl⟩:∃j,i=j+1:=⟨i - 1,by omega⟩
      obtain ⟨ds,hdl,⟨rfl,d1⟩,hd⟩:=g4 j (by omega)
      have r0:=hx.keep (hd 0 _ rfl)
      rw [Nat.mul_one,Nat.add_zero] at r0
      have hg:l.getD j 0=l[j]:=by rw [List.getD_eq_getElem?_getD,List.getElem?_eq_getElem (by omega)];rfl
      have HG:=Lib.hid hg
      have jw:=IntWalk.i64_in (((j+1:Nat):Int) - 1) (by omega)
      have je:((j+1:Nat):Int) - 1=j:=by omega
      clear hg hd
      by_cases hle:l[j+1]≤l[j]
      ·have HB:=Lib.hid (hbad (by rw [HA.out,show j+1 - 1=j by omega,HG.out];simp;intro _;omega))
       clear hbad
       go_wp2_with (go_at_call 55;refine (c_impl_within _ _ _ _).mono ?_;rintro e w' ⟨rfl,rfl⟩;rw [H1.out])
       go_ret
       exact ⟨ret_bool HB.out.symm,xw⟩
      ·clear hbad
       go_wp2_with (go_at_call 55;refine (c_impl_within _ _ _ _).mono ?_;rintro e w' ⟨rfl,rfl⟩;rw [H1.out])
       go_roundw
       case rel=>exact ⟨j+1+1,rfl,by omega,by rw [HS.out,HOK.out,HA.out,H1.out,show j+1 - 1=j by omega,HG.out];simp;omega,xw⟩
       ·simp only [intOf];omega
  ·have e:i=l.length:=by omega
   subst e
   go_wp2
   go_ret
   exact ⟨ret_bool HOK.out.symm,xw⟩
set_option maxRecDepth 100000 in
set_option maxHeartbeats 1600000 in
theorem c_spec_l1Rising (lo hi:Nat) (v:Value) (l:List Int) (m1 m2:Int) (w:World) (h:IntsV lo hi w v l) :
 Calls Tryz.prog 200 #[v,.int .i64 m1,.int .i64 m2] w fun e w'=>e=.returned (.bool (riseB m1 m2 l))∧Ext w w':=by
 obtain ⟨a,k,rfl,g1,g2,g3,g4⟩:=h
 unfold maxLen at g2
 go_enter Tryz.func200,Tryz.ntmps200
 go_wp2
 go_loopw [7] (fun c wr=>∃i:Nat,c=.int .i64 i∧i≤l.length∧(List.range i).all (riseOk m1 m2 l)=true∧Ext w wr) (fun c _=>l.length - (intOf c).toNat)
 case atStart=>exact ⟨0,rfl,Nat.zero_le _,rfl,xw⟩
 case round=>
  obtain ⟨i,rfl,hi',hok,hx⟩:=hrel
  have HOK:=Lib.hid hok
  clear hok
  by_cases hlt:i<l.length
  ·rcases g4 with g4|⟨b,o,rfl,gb1,gb2,g4⟩
   ·subst g4;simp at hlt
   ·have hbad:=riseB_bad m1 m2 l i hlt
    have hat:=riseOk_at m1 m2 l i hlt
    have hsucc:=range_all_succ (riseOk m1 m2 l) i
    obtain ⟨cs,hl,⟨rfl,e1⟩,hc⟩:=g4 i hlt
    have q0:=hx.keep (hc 0 _ rfl)
    rw [Nat.mul_one,Nat.add_zero] at q0
    clear hc
    unfold I64 at e1
    have HA:=Lib.hid hat
    have HS:=Lib.hid hsucc
    clear hat hsucc
    cases h1:inR l[i] m1 m2
    ·have HB:=Lib.hid (hbad (by rw [HA.out,h1];rfl))
     have H1:=Lib.hid h1
     clear h1 hbad
     go_wp2_with fail
     refine wp_region_held_drew (S:=(fun w'=>Ext wr w')) (by kernel_rfl) ?_ (fun hHeld=>?_)
     ·exact (Ext.refl wr).drew
     refine tkP 0 ?_ ?_ ?_;rotate_left;focus (intro w;go_simp;try with_reducible rfl)
     try simp only [Act.put,aput]
     refine tkP 1 ?_ ?_ ?_;rotate_left;focus (intro w;go_simp;try with_reducible rfl)
     try simp only [Act.put,aput]
     refine tkP 2 ?_ ?_ ?_;rotate_left;focus (intro w;go_simp;try with_reducible rfl)
     try simp only [Act.put,aput]
     refine tkY 3 ?_ ?_ ?_;rotate_left;focus (intro w hSw;(try dsimp only at hSw);have s0:=Ext.keep hSw q0;go_simp;try with_reducible rfl)
     try simp only [Act.put,aput]
     refine tkP 4 ?_ ?_ ?_;rotate_left;focus (intro w;go_simp;try with_reducible rfl)
     try simp only [Act.put,aput]
     refine tkP 5 ?_ ?_ ?_;rotate_left;focus (intro w;go_simp;try with_reducible rfl)
     try simp only [Act.put,aput]
     refine wpAnyH_ready (rs:=[6]) (by kernel_rfl) (by simp) ?_
     refine AllReadyH.cons rfl (fun K hK=>?_) AllReadyH.nil
     (try simp only [aput])
     go_simp
     (go_at_call 106;refine (c_spec_l1In _ _ _ _).mono ?_;rintro e w' ⟨rfl,rfl⟩;rw [H1.out])
     show K _ _
     refine hK.out _ _ (by exact hHeld) (fun hHeld=>?_)
     clear hK K
     try simp only [Act.put,aput]
     refine tkP 7 ?_ ?_ ?_;rotate_left;focus (intro w;go_simp;try with_reducible rfl)
     try simp only [Act.put,aput]
     refine tkP 8 ?_ ?_ ?_;rotate_left;focus (intro w;go_simp;try with_reducible rfl)
     try simp only [Act.put,aput]
     refine tkN 9 ?_
     try simp only [Act.put,aput]
     refine tkN 10 ?_
     try simp only [Act.put,aput]
     refine tkN 11 ?_
     try simp only [Act.put,aput]
     refine tkN 12 ?_
     try simp only [Act.put,aput]
     refine tkN 13 ?_
     try simp only [Act.put,aput]
     refine tkN 14 ?_
     try simp only [Act.put,aput]
     refine tkN 15 ?_
     try simp only [Act.put,aput]
     refine tkN 16 ?_
     try simp only [Act.put,aput]
     refine tkN 17 ?_
     try simp only [Act.put,aput]
     refine tkN 18 ?_
     try simp only [Act.put,aput]
     refine tkN 19 ?_
     try simp only [Act.put,aput]
     refine tkN 20 ?_
     try simp only [Act.put,aput]
     refine tkN 21 ?_
     try simp only [Act.put,aput]
     refine tkN 22 ?_
     try simp only [Act.put,aput]
     refine tkP 23 ?_ ?_ ?_;rotate_left;focus (intro w;go_simp;try with_reducible rfl)
     try simp only [Act.put,aput]
     refine wpAnyH_done (by kernel_rfl) ?_ _
     all_goals go_wp2
     all_goals go_ret
     all_goals exact ⟨ret_bool HB.out.symm,xw⟩
    ·have H1:=Lib.hid h1
     clear h1
     by_cases hi0:i=0
     ·subst hi0
      simp only [Nat.add_zero] at q0
      go_wp2_with fail
      refine wp_region_held_drew (S:=(fun w'=>Ext wr w')) (by kernel_rfl) ?_ (fun hHeld=>?_)
      ·exact (Ext.refl wr).drew
      refine tkP 0 ?_ ?_ ?_;rotate_left;focus (intro w;go_simp;try with_reducible rfl)
      try simp only [Act.put,aput]
      refine tkP 1 ?_ ?_ ?_;rotate_left;focus (intro w;go_simp;try with_reducible rfl)
      try simp only [Act.put,aput]
      refine tkP 2 ?_ ?_ ?_;rotate_left;focus (intro w;go_simp;try with_reducible rfl)
      try simp only [Act.put,aput]
      refine tkY 3 ?_ ?_ ?_;rotate_left;focus (intro w hSw;(try dsimp only at hSw);have s0:=Ext.keep hSw q0;go_simp;try with_reducible rfl)
      try simp only [Act.put,aput]
      refine tkP 4 ?_ ?_ ?_;rotate_left;focus (intro w;go_simp;try with_reducible rfl)
      try simp only [Act.put,aput]
      refine tkP 5 ?_ ?_ ?_;rotate_left;focus (intro w;go_simp;try with_reducible rfl)
      try simp only [Act.put,aput]
      refine wpAnyH_ready (rs:=[6]) (by kernel_rfl) (by simp) ?_
      refine AllReadyH.cons rfl (fun K hK=>?_) AllReadyH.nil
      (try simp only [aput])
      go_simp
      (go_at_call 106;refine (c_spec_l1In _ _ _ _).mono ?_;rintro e w' ⟨rfl,rfl⟩;rw [H1.out])
      show K _ _
      refine hK.out _ _ (by exact hHeld) (fun hHeld=>?_)
      clear hK K
      try simp only [Act.put,aput]
      refine tkP 7 ?_ ?_ ?_;rotate_left;focus (intro w;go_simp;try with_reducible rfl)
      try simp only [Act.put,aput]
      refine tkP 8 ?_ ?_ ?_;rotate_left;focus (intro w;go_simp;try with_reducible rfl)
      try simp only [Act.put,aput]
      refine tkP 9 ?_ ?_ ?_;rotate_left;focus (intro w;go_simp;try with_reducible rfl)
      try simp only [Act.put,aput]
      refine tkP 10 ?_ ?_ ?_;rotate_left;focus (intro w;go_simp;try with_reducible rfl)
      try simp only [Act.put,aput]
      refine tkP 11 ?_ ?_ ?_;rotate_left;focus (intro w;go_simp;try with_reducible rfl)
      try simp only [Act.put,aput]
      refine tkN 12 ?_
      try simp only [Act.put,aput]
      refine tkN 13 ?_
      try simp only [Act.put,aput]
      refine tkN 14 ?_
      try simp only [Act.put,aput]
      refine tkN 15 ?_
      try simp only [Act.put,aput]
      refine tkN 16 ?_
      try simp only [Act.put,aput]
      refine tkN 17 ?_
      try simp only [Act.put,aput]
      refine tkN 18 ?_
      try simp only [Act.put,aput]
      refine tkN 19 ?_
      try simp only [Act.put,aput]
      refine tkN 20 ?_
      try simp only [Act.put,aput]
      refine tkN 21 ?_
      try simp only [Act.put,aput]
      refine tkP 22 ?_ ?_ ?_;rotate_left;focus (intro w;go_simp;try with_reducible rfl)
      try simp only [Act.put,aput]
      refine tkP 23 ?_ ?_ ?_;rotate_left;focus (intro w;go_simp;try with_reducible rfl)
      try simp only [Act.put,aput]
      refine wpAnyH_done (by kernel_rfl) ?_ _
      all_goals go_wp2
      all_goals go_roundw
      case rel=>exact ⟨1,rfl,by omega,by rw [HS.out,HOK.out,HA.out,H1.out];rfl,xw⟩
      all_goals (simp only [intOf];omega)
     ·obtain ⟨j,rfl⟩:∃j,i=j+1:=⟨i - 1,by omega⟩
      obtain ⟨ds,hdl,⟨rfl,d1⟩,hd⟩:=g4 j (by omega)
      have r0:=hx.keep (hd 0 _ rfl)
      rw [Nat.mul_one,Nat.add_zero] at r0
      have hg:l.getD j 0=l[j]:=by rw [List.getD_eq_getElem?_getD,List.getElem?_eq_getElem (by omega)];rfl
      have HG:=Lib.hid hg
      have jw:=IntWalk.i64_in (((j+1:Nat):Int) - 1) (by omega)
      have je:((j+1:Nat):Int) - 1=j:=by omega
      have jlt:j<l.length:=by omega
      have jw3:=IntWalk.i64_in (j:Int) (by omega)
      have jp3:(0:Int)≤(j:Int):=by omega
      have jp4:(j:Int)<l.length:=by omega
      have jp:0≤(j:Int)+1:=by omega
      have jp2:(j:Int)+1<l.length:=by omega
      clear hg hd
      by_cases hle:l[j+1]≤l[j]
      ·have HB:=Lib.hid (hbad (by rw [HA.out,show j+1 - 1=j by omega,HG.out];simp;intro _;omega))
       clear hbad
       go_wp2_with fail
       refine wp_region_held_drew (S:=(fun w'=>Ext wr w')) (by kernel_rfl) ?_ (fun hHeld=>?_)
       ·exact (Ext.refl wr).drew
       refine tkP 0 ?_ ?_ ?_;rotate_left;focus (intro w;go_simp;try with_reducible rfl)
       try simp only [Act.put,aput]
       refine tkP 1 ?_ ?_ ?_;rotate_left;focus (intro w;go_simp;try with_reducible rfl)
       try simp only [Act.put,aput]
       refine tkP 2 ?_ ?_ ?_;rotate_left;focus (intro w;go_simp;try with_reducible rfl)
       try simp only [Act.put,aput]
       refine tkY 3 ?_ ?_ ?_;rotate_left;focus (intro w hSw;(try dsimp only at hSw);have s0:=Ext.keep hSw q0;have s1:=Ext.keep hSw r0;go_simp;try with_reducible rfl)
       try simp only [Act.put,aput]
       refine tkP 4 ?_ ?_ ?_;rotate_left;focus (intro w;go_simp;try with_reducible rfl)
       try simp only [Act.put,aput]
       refine tkP 5 ?_ ?_ ?_;rotate_left;focus (intro w;go_simp;try with_reducible rfl)
       try simp only [Act.put,aput]
       refine wpAnyH_ready (rs:=[6]) (by kernel_rfl) (by simp) ?_
       refine AllReadyH.cons rfl (fun K hK=>?_) AllReadyH.nil
       (try simp only [aput])
       go_simp
       (go_at_call 106;refine (c_spec_l1In _ _ _ _).mono ?_;rintro e w' ⟨rfl,rfl⟩;rw [H1.out])
       show K _ _
       refine hK.out _ _ (by exact hHeld) (fun hHeld=>?_)
       clear hK K
       try simp only [Act.put,aput]
       refine tkP 7 ?_ ?_ ?_;rotate_left;focus (intro w;go_simp;try with_reducible rfl)
       try simp only [Act.put,aput]
       refine tkP 8 ?_ ?_ ?_;rotate_left;focus (intro w;go_simp;try with_reducible rfl)
       try simp only [Act.put,aput]
       refine tkP 9 ?_ ?_ ?_;rotate_left;focus (intro w;go_simp;try with_reducible rfl)
       try simp only [Act.put,aput]
       refine tkP 10 ?_ ?_ ?_;rotate_left;focus (intro w;go_simp;try with_reducible rfl)
       try simp only [Act.put,aput]
       refine tkP 11 ?_ ?_ ?_;rotate_left;focus (intro w;go_simp;try with_reducible rfl)
       try simp only [Act.put,aput]
       refine tkP 12 ?_ ?_ ?_;rotate_left;focus (intro w;go_simp;try with_reducible rfl)
       try simp only [Act.put,aput]
       refine tkP 13 ?_ ?_ ?_;rotate_left;focus (intro w;go_simp;try with_reducible rfl)
       try simp only [Act.put,aput]
       refine tkP 14 ?_ ?_ ?_;rotate_left;focus (intro w;go_simp;try with_reducible rfl)
       try simp only [Act.put,aput]
       refine tkP 15 ?_ ?_ ?_;rotate_left;focus (intro w;go_simp;try with_reducible rfl)
       try simp only [Act.put,aput]
       refine tkY 16 ?_ ?_ ?_;rotate_left;focus (intro w hSw;(try dsimp only at hSw);have s0:=Ext.keep hSw q0;have s1:=Ext.keep hSw r0;go_simp;try with_reducible rfl)
       try simp only [Act.put,aput]
       refine tkP 17 ?_ ?_ ?_;rotate_left;focus (intro w;go_simp;try with_reducible rfl)
       try simp only [Act.put,aput]
       refine tkP 18 ?_ ?_ ?_;rotate_left;focus (intro w;go_simp;try with_reducible rfl)
       try simp only [Act.put,aput]
       refine tkP 19 ?_ ?_ ?_;rotate_left;focus (intro w;go_simp;try with_reducible rfl)
       try simp only [Act.put,aput]
       refine tkY 20 ?_ ?_ ?_;rotate_left;focus (intro w hSw;(try dsimp only at hSw);have s0:=Ext.keep hSw q0;have s1:=Ext.keep hSw r0;go_simp;try with_reducible rfl)
       try simp only [Act.put,aput]
       refine tkP 21 ?_ ?_ ?_;rotate_left;focus (intro w;go_simp;try with_reducible rfl)
       try simp only [Act.put,aput]
       refine tkP 22 ?_ ?_ ?_;rotate_left;focus (intro w;go_simp;try with_reducible rfl)
       try simp only [Act.put,aput]
       refine tkP 23 ?_ ?_ ?_;rotate_left;focus (intro w;go_simp;try with_reducible rfl)
       try simp only [Act.put,aput]
       refine wpAnyH_done (by kernel_rfl) ?_ _
       all_goals go_wp2
       all_goals go_ret
       all_goals exact ⟨ret_bool HB.out.symm,xw⟩
      ·clear hbad
       go_wp2_with fail
       refine wp_region_held_drew (S:=(fun w'=>Ext wr w')) (by kernel_rfl) ?_ (fun hHeld=>?_)
       ·exact (Ext.refl wr).drew
       refine tkP 0 ?_ ?_ ?_;rotate_left;focus (intro w;go_simp;try with_reducible rfl)
       try simp only [Act.put,aput]
       refine tkP 1 ?_ ?_ ?_;rotate_left;focus (intro w;go_simp;try with_reducible rfl)
       try simp only [Act.put,aput]
       refine tkP 2 ?_ ?_ ?_;rotate_left;focus (intro w;go_simp;try with_reducible rfl)
       try simp only [Act.put,aput]
       refine tkY 3 ?_ ?_ ?_;rotate_left;focus (intro w hSw;(try dsimp only at hSw);have s0:=Ext.keep hSw q0;have s1:=Ext.keep hSw r0;go_simp;try with_reducible rfl)
       try simp only [Act.put,aput]
       refine tkP 4 ?_ ?_ ?_;rotate_left;focus (intro w;go_simp;try with_reducible rfl)
       try simp only [Act.put,aput]
       refine tkP 5 ?_ ?_ ?_;rotate_left;focus (intro w;go_simp;try with_reducible rfl)
       try simp only [Act.put,aput]
       refine wpAnyH_ready (rs:=[6]) (by kernel_rfl) (by simp) ?_
       refine AllReadyH.cons rfl (fun K hK=>?_) AllReadyH.nil
       (try simp only [aput])
       go_simp
       (go_at_call 106;refine (c_spec_l1In _ _ _ _).mono ?_;rintro e w' ⟨rfl,rfl⟩;rw [H1.out])
       show K _ _
       refine hK.out _ _ (by exact hHeld) (fun hHeld=>?_)
       clear hK K
       try simp only [Act.put,aput]
       refine tkP 7 ?_ ?_ ?_;rotate_left;focus (intro w;go_simp;try with_reducible rfl)
       try simp only [Act.put,aput]
       refine tkP 8 ?_ ?_ ?_;rotate_left;focus (intro w;go_simp;try with_reducible rfl)
       try simp only [Act.put,aput]
       refine tkP 9 ?_ ?_ ?_;rotate_left;focus (intro w;go_simp;try with_reducible rfl)
       try simp only [Act.put,aput]
       refine tkP 10 ?_ ?_ ?_;rotate_left;focus (intro w;go_simp;try with_reducible rfl)
       try simp only [Act.put,aput]
       refine tkP 11 ?_ ?_ ?_;rotate_left;focus (intro w;go_simp;try with_reducible rfl)
       try simp only [Act.put,aput]
       refine tkP 12 ?_ ?_ ?_;rotate_left;focus (intro w;go_simp;try with_reducible rfl)
       try simp only [Act.put,aput]
       refine tkP 13 ?_ ?_ ?_;rotate_left;focus (intro w;go_simp;try with_reducible rfl)
       try simp only [Act.put,aput]
       refine tkP 14 ?_ ?_ ?_;rotate_left;focus (intro w;go_simp;try with_reducible rfl)
       try simp only [Act.put,aput]
       refine tkP 15 ?_ ?_ ?_;rotate_left;focus (intro w;go_simp;try with_reducible rfl)
       try simp only [Act.put,aput]
       refine tkY 16 ?_ ?_ ?_;rotate_left;focus (intro w hSw;(try dsimp only at hSw);have s0:=Ext.keep hSw q0;have s1:=Ext.keep hSw r0;go_simp;try with_reducible rfl)
       try simp only [Act.put,aput]
       refine tkP 17 ?_ ?_ ?_;rotate_left;focus (intro w;go_simp;try with_reducible rfl)
       try simp only [Act.put,aput]
       refine tkP 18 ?_ ?_ ?_;rotate_left;focus (intro w;go_simp;try with_reducible rfl)
       try simp only [Act.put,aput]
       refine tkP 19 ?_ ?_ ?_;rotate_left;focus (intro w;go_simp;try with_reducible rfl)
       try simp only [Act.put,aput]
       refine tkY 20 ?_ ?_ ?_;rotate_left;focus (intro w hSw;(try dsimp only at hSw);have s0:=Ext.keep hSw q0;have s1:=Ext.keep hSw r0;go_simp;try with_reducible rfl)
       try simp only [Act.put,aput]
       refine tkP 21 ?_ ?_ ?_;rotate_left;focus (intro w;go_simp;try with_reducible rfl)
       try simp only [Act.put,aput]
       refine tkP 22 ?_ ?_ ?_;rotate_left;focus (intro w;go_simp;try with_reducible rfl)
       try simp only [Act.put,aput]
       refine tkP 23 ?_ ?_ ?_;rotate_left;focus (intro w;go_simp;try with_reducible rfl)
       try simp only [Act.put,aput]
       refine wpAnyH_done (by kernel_rfl) ?_ _
       all_goals go_wp2
       all_goals go_roundw
       case rel=>exact ⟨j+1+1,rfl,by omega,by rw [HS.out,HOK.out,HA.out,H1.out,show j+1 - 1=j by omega,HG.out];simp;omega,xw⟩
       all_goals (simp only [intOf];omega)
  ·have e:i=l.length:=by omega
   subst e
   go_wp2
   go_ret
   exact ⟨ret_bool HOK.out.symm,xw⟩
end Go.Proofs.YtccjepndhlobpaaGreatDoor

/-
  Walks: sortings, by the reference.
-/
namespace Go.Proofs.YtccjepndhlobpaaGreatDoor
open Go.RowKit
set_option linter.unusedVariables false
set_option linter.unusedSimpArgs false
attribute [local irreducible] inR nameB riseB sigB

def nestOk (sig:List Ctl) (nest:List (List Int)) (i:Nat):Bool:=match sig[i]?,nest[i]? with
 | some c,some l=>riseB 0 ((sig.length:Int) - 1) l && !(decide (c.kind=2) && decide (0<l.length))
 | _,_=>true
/-- What may be in each control. -/
def nestB (sig:List Ctl) (nest:List (List Int)):Bool:=decide (nest.length=sig.length) && (List.range nest.length).all (nestOk sig nest)
theorem nestOk_at (sig:List Ctl) (nest:List (List Int)) (i:Nat) (h1:i<sig.length) (h2:i<nest.length):nestOk sig nest i=(riseB 0 ((sig.length:Int) - 1) nest[i] && !(decide (sig[i].kind=2) && decide (0<(nest[i]).length))):=by
 unfold nestOk;rw [List.getElem?_eq_getElem h1,List.getElem?_eq_getElem h2]
theorem nestB_bad (sig:List Ctl) (nest:List (List Int)) (i:Nat) (h:i<nest.length) (hb:nestOk sig nest i=false):nestB sig nest=false:=by
 unfold nestB;rw [range_all_bad _ _ i h hb,Bool.and_false]
theorem c_spec_l7Controls (lo hi lo' hi':Nat) (v v':Value) (sig:List Ctl) (l:List Int) (w:World) (h:CtlsV lo hi w v sig) (h':IntsV lo' hi' w v' l) :
 Calls Tryz.prog 149 #[v,v'] w fun e w'=>e=.returned (.bool (riseB 0 ((sig.length:Int) - 1) l))∧Ext w w':=by
 obtain ⟨a,k,rfl,g1,g2,g3,g4⟩:=h
 unfold maxLen at g2
 have hw:=IntWalk.i64_in ((sig.length:Int) - 1) (by omega)
 go_enter Tryz.func149,Tryz.ntmps149
 go_wp2_with (go_at_call 200;refine (c_spec_l1Rising lo' hi' v' l 0 ((sig.length:Int) - 1) _ h').mono ?_;rintro e y ⟨rfl,hb⟩)
 go_ret
 exact ⟨rfl,xw⟩
set_option maxRecDepth 100000 in
set_option maxHeartbeats 1600000 in
theorem c_spec_l7Nest (lo hi lo' hi':Nat) (v v':Value) (sig:List Ctl) (nest:List (List Int)) (w:World) (h:CtlsV lo hi w v sig) (h':RowsV lo' hi' w v' nest) :
 Calls Tryz.prog 150 #[v,v'] w fun e w'=>e=.returned (.bool (nestB sig nest))∧Ext w w':=by
 have hV:=h
 obtain ⟨a,k,rfl,g1,g2,g3,g4⟩:=h
 obtain ⟨a',k',rfl,m1,m2,m3,m4⟩:=h'
 unfold maxLen at g2 m2
 by_cases hll:nest.length=sig.length
 ·go_enter Tryz.func150,Tryz.ntmps150
  have hll':(nest.length:Int)=(sig.length:Int):=by omega
  have hnn:((nest.length:Int) != (sig.length:Int))=false:=by simp [hll']
  have HLL:=Lib.hid hll
  clear hll hll'
  go_wp2
  all_goals first|(exfalso;have:=HLL.out;simp_all;done)|skip
  go_loopw [5] (fun c wr=>∃i:Nat,c=.int .i64 i∧i≤nest.length∧(List.range i).all (nestOk sig nest)=true∧Ext w wr) (fun c _=>nest.length - (intOf c).toNat)
  case atStart=>exact ⟨0,rfl,Nat.zero_le _,rfl,xw⟩
  case round=>
   obtain ⟨i,rfl,hi0,hok,hx⟩:=hrel
   have HOK:=Lib.hid hok
   clear hok
   by_cases hlt:i<nest.length
   ·have hlt2:i<sig.length:=by rw [← HLL.out];exact hlt
    rcases g4 with g4|⟨b,o,rfl,gb1,gb2,g4⟩
    ·subst g4;simp at hlt2
    rcases m4 with m4|⟨b',o',rfl,mb1,mb2,m4⟩
    ·subst m4;simp at hlt
    have hbad:=nestB_bad sig nest i hlt
    have HA:=Lib.hid (nestOk_at sig nest i hlt2 hlt)
    have HS:=Lib.hid (range_all_succ (nestOk sig nest) i)
    obtain ⟨cs,hl,hP,hc⟩:=g4 i hlt2
    obtain ⟨rfl,e1,e2,e3⟩:=hP
    have q2:=hx.keep (hc 2 _ rfl)
    obtain ⟨ds,hdl,hD,hd⟩:=m4 i hlt
    obtain ⟨rv,rfl,hR⟩:=hD
    have hR':=hR
    obtain ⟨ra,rk,rfl,r1,r2,r3,_⟩:=hR'
    have r0:=hx.keep (hd 0 _ rfl)
    rw [Nat.mul_one,Nat.add_zero] at r0
    clear hc hd g4 m4
    have HV:=hV.keeps CtlP.keeps (Same.ext hx)
    have HR:=hR.keeps IntP.keeps (Same.ext hx)
    clear hV hR
    go_wp2_with fail
    refine (c_spec_l7Controls lo hi lo' hi' _ _ sig nest[i] wr HV HR).mono ?_
    rintro e y ⟨rfl,hb⟩
    replace q2:=hb.keep q2
    replace r0:=hb.keep r0
    cases h1:riseB 0 ((sig.length:Int) - 1) nest[i]
    ·have HB:=Lib.hid (hbad (by rw [HA.out,h1];rfl))
     clear hbad h1
     go_wp2
     go_ret
     exact ⟨ret_bool HB.out.symm,xw⟩
    ·by_cases h2:sig[i].kind=2
     ·by_cases h3:0<(nest[i]).length
      ·have HB:=Lib.hid (hbad (by rw [HA.out,h1];simp [h2,h3]))
       clear hbad h1
       go_wp2
       go_ret
       exact ⟨ret_bool HB.out.symm,xw⟩
      ·have HG:=Lib.hid (show nestOk sig nest i=true by rw [HA.out,h1];simp [h3])
       clear hbad h1
       go_wp2
       go_roundw
       case rel=>exact ⟨i+1,rfl,by omega,by rw [HS.out,HOK.out,HG.out];rfl,xw⟩
       ·simp only [intOf];omega
     ·have HG:=Lib.hid (show nestOk sig nest i=true by rw [HA.out,h1];simp [h2])
      clear hbad h1
      go_wp2
      go_roundw
      case rel=>exact ⟨i+1,rfl,by omega,by rw [HS.out,HOK.out,HG.out];rfl,xw⟩
      ·simp only [intOf];omega
   ·have e:i=nest.length:=by omega
    subst e
    go_wp2
    go_ret
    exact ⟨ret_bool (by unfold nestB;rw [HOK.out,HLL.out];simp),xw⟩
 ·go_enter Tryz.func150,Tryz.ntmps150
  go_wp2
  all_goals first
   | (exfalso;omega)
   | (go_ret;exact ⟨ret_bool (by unfold nestB;simp [hll]),xw⟩)
end Go.Proofs.YtccjepndhlobpaaGreatDoor

/-
  Walks: pairs and sorts.
-/
namespace Go.Proofs.YtccjepndhlobpaaGreatDoor
open Go.RowKit
set_option linter.unusedVariables false
set_option linter.unusedSimpArgs false
attribute [local irreducible] inR nameB riseB sigB nestB

/-- A pair comes before another one. -/
def pairLt (a b:Int × Int):Bool:=decide (a.1<b.1) || (decide (a.1=b.1) && decide (a.2<b.2))
def sortsOk (sig:List Ctl) (sorts:List (List Int)) (many:Int) (i:Nat):Bool:=match sig[i]?,sorts[i]? with
 | some c,some l=>decide ((l.length:Int)=c.ports) && l.all (fun x=>inR x 0 (many - 1))
 | _,_=>true
/-- A sort for each port of each control. -/
def sortsB (sig:List Ctl) (sorts:List (List Int)) (many:Int):Bool:=decide (sorts.length=sig.length) && (List.range sorts.length).all (sortsOk sig sorts many)
theorem sortsOk_at (sig:List Ctl) (nest:List (List Int)) (many:Int) (i:Nat) (h1:i<sig.length) (h2:i<nest.length):sortsOk sig nest many i=(decide (((nest[i]).length:Int)=sig[i].ports) && nest[i].all (fun x=>inR x 0 (many - 1))):=by
 unfold sortsOk;rw [List.getElem?_eq_getElem h1,List.getElem?_eq_getElem h2]
theorem sortsB_bad (sig:List Ctl) (nest:List (List Int)) (many:Int) (i:Nat) (h:i<nest.length) (hb:sortsOk sig nest many i=false):sortsB sig nest many=false:=by
 unfold sortsB;rw [range_all_bad _ _ i h hb,Bool.and_false]
theorem all_take_succ {α:Type} (p:α→Bool) (xs:List α) (i:Nat) (h:i<xs.length):(xs.take (i+1)).all p=((xs.take i).all p && p xs[i]):=by
 rw [List.take_succ_eq_append_getElem h,List.all_append,List.all_cons,List.all_nil,Bool.and_true]
theorem all_bad {α:Type} (p:α→Bool) (xs:List α) (i:Nat) (h:i<xs.length) (hp:p xs[i]=false):xs.all p=false:=by
 rw [List.all_eq_false];exact ⟨_,List.getElem_mem h,by simp [hp]⟩
theorem c_spec_l7Before (a b:Int × Int) (w:World) :
 Calls Tryz.prog 152 #[.agg #[.int .i64 a.1,.int .i64 a.2],.agg #[.int .i64 b.1,.int .i64 b.2]] w fun e w'=>e=.returned (.bool (pairLt a b))∧Ext w w':=by
 obtain ⟨a1,a2⟩:=a
 obtain ⟨b1,b2⟩:=b
 unfold pairLt
 go_enter Tryz.func152,Tryz.ntmps152
 by_cases h1:a1<b1
 ·go_wp2
  go_ret
  exact ⟨ret_bool (by simp [h1]),xw⟩
 ·by_cases h2:a1=b1
  ·subst h2
   go_wp2
   go_ret
   exact ⟨ret_bool (by simp),xw⟩
  ·go_wp2
   go_ret
   exact ⟨ret_bool (by simp [h1,h2]),xw⟩
set_option maxHeartbeats 1600000 in
theorem c_slices_Compare_int_int (A B:Nat) (a b:Int × Int) (k k':Nat) (w:World) (ha0:w.cell? ⟨A,0,none⟩=some (.int .i64 a.1)) (ha1:w.cell? ⟨A,1,none⟩=some (.int .i64 a.2)) (hb0:w.cell? ⟨B,0,none⟩=some (.int .i64 b.1)) (hb1:w.cell? ⟨B,1,none⟩=some (.int .i64 b.2)) :
 Calls Tryz.prog 213 #[.slice (some ⟨A,0,none⟩) 2 k,.slice (some ⟨B,0,none⟩) 2 k'] w fun e w'=>∃r:Int,e=.returned (.int .i64 r)∧decide (0≤r) = !(pairLt a b)∧w=w':=by
 obtain ⟨a1,a2⟩:=a
 obtain ⟨b1,b2⟩:=b
 unfold pairLt
 have HC:∀x y w,Calls Tryz.prog 231 #[.int .i64 x,.int .i64 y] w fun e w'=>e=.returned (.int .i64 (if x<y then -1 else if y<x then 1 else 0))∧w'=w:=fun x y w=>(Tryz.cmp_Compare_int x y w).mono (by
  rintro e y' ⟨rfl,rfl⟩;exact ⟨by unfold Lib.compareInt;congr 2,rfl⟩)
 go_enter Tryz.func213,Tryz.ntmps213
 go_wp2
 go_loopw [11] (fun c wr=>∃i:Nat,c=.int .i64 i∧i≤2∧(1≤i→a1=b1)∧(2≤i→a2=b2)∧w=wr) (fun c _=>2 - (intOf c).toNat)
 case atStart=>exact ⟨0,rfl,by omega,fun h=>by omega,fun h=>by omega,rfl⟩
 case round=>
  obtain ⟨i,rfl,hi,h1,h2,rfl⟩:=hrel
  have:i=0∨i=1∨i=2:=by omega
  rcases this with rfl|rfl|rfl
  ·rcases Int.lt_trichotomy a1 b1 with h|h|h
   ·go_wp2_with (go_at_call 231;refine (HC _ _ _).mono ?_;rintro e w' ⟨rfl,rfl⟩;rw [if_pos h])
    go_ret
    exact ⟨_,rfl,by simp [h],rfl⟩
   ·go_wp2_with (go_at_call 231;refine (HC _ _ _).mono ?_;rintro e w' ⟨rfl,rfl⟩;rw [if_neg (by omega),if_neg (by omega)])
    go_roundw
    case rel=>exact ⟨1,rfl,by omega,fun _=>h,fun h=>by omega,by first|rfl|trivial⟩
    ·simp [intOf]
   ·go_wp2_with (go_at_call 231;refine (HC _ _ _).mono ?_;rintro e w' ⟨rfl,rfl⟩;rw [if_neg (by omega),if_pos h])
    go_ret
    exact ⟨_,rfl,by simp;omega,rfl⟩
  ·have e1:=h1 (by omega)
   rcases Int.lt_trichotomy a2 b2 with h|h|h
   ·go_wp2_with (go_at_call 231;refine (HC _ _ _).mono ?_;rintro e w' ⟨rfl,rfl⟩;rw [if_pos h])
    go_ret
    exact ⟨_,rfl,by simp [e1,h],rfl⟩
   ·go_wp2_with (go_at_call 231;refine (HC _ _ _).mono ?_;rintro e w' ⟨rfl,rfl⟩;rw [if_neg (by omega),if_neg (by omega)])
    go_roundw
    case rel=>exact ⟨2,rfl,by omega,fun _=>e1,fun _=>h,by first|rfl|trivial⟩
    ·simp [intOf]
   ·go_wp2_with (go_at_call 231;refine (HC _ _ _).mono ?_;rintro e w' ⟨rfl,rfl⟩;rw [if_neg (by omega),if_pos h])
    go_ret
    exact ⟨_,rfl,by simp;omega,rfl⟩
  ·have e1:=h1 (by omega)
   have e2:=h2 (by omega)
   go_wp2
   go_ret
   exact ⟨_,rfl,by simp;omega,rfl⟩
theorem c_impl_comparePairs (a b:Int × Int) (w:World) :
 Calls Tryz.prog 165 #[.agg #[.int .i64 a.1,.int .i64 a.2],.agg #[.int .i64 b.1,.int .i64 b.2]] w fun e w'=>∃r:Int,e=.returned (.int .i64 r)∧decide (0≤r) = !(pairLt a b)∧Ext w w':=by
 have H:=fun A B k k' w=>c_slices_Compare_int_int A B a b k k' w
 generalize pairLt a b=r0 at H ⊢
 go_enter Tryz.func165,Tryz.ntmps165
 go_wp2_with fail
 refine wp_region_held_drew (S:=(fun w'=>(w'.cell? ⟨w.heap.size,0,none⟩=some (.int .i64 a.1)∧w'.cell? ⟨w.heap.size,1,none⟩=some (.int .i64 a.2)∧w'.cell? ⟨w.heap.size+1,0,none⟩=some (.int .i64 b.1)∧w'.cell? ⟨w.heap.size+1,1,none⟩=some (.int .i64 b.2))∧Ext w w')) (by kernel_rfl) ?_ (fun hHeld=>?_)
 ·exact ⟨⟨by simp,by simp,by simp,by simp⟩,xw⟩
 refine tkP 0 ?_ ?_ ?_;rotate_left;focus (intro w;go_simp;try with_reducible rfl)
 try simp only [Act.put,aput]
 refine tkP 1 ?_ ?_ ?_;rotate_left;focus (intro w;go_simp;try with_reducible rfl)
 try simp only [Act.put,aput]
 refine wpAnyH_ready (rs:=[2]) (by kernel_rfl) (by simp) ?_
 refine AllReadyH.cons rfl (fun K hK=>?_) AllReadyH.nil
 (try simp only [aput])
 go_simp
 (have hh:=hHeld;(try dsimp only at hh);obtain ⟨⟨s0,s1,s2,s3⟩,s4⟩:=hh;go_at_call 213;refine (H _ _ _ _ _ s0 s1 s2 s3).mono ?_;rintro e y ⟨r,rfl,hr,rfl⟩)
 show K _ _
 refine hK.out _ _ (by exact hHeld) (fun hHeld=>?_)
 clear hK K
 try simp only [Act.put,aput]
 refine tkP 3 ?_ ?_ ?_;rotate_left;focus (intro w;go_simp;try with_reducible rfl)
 try simp only [Act.put,aput]
 refine wpAnyH_done (by kernel_rfl) ?_ _
 all_goals go_wp2
 all_goals go_ret
 all_goals exact ⟨_,rfl,by assumption,xw⟩
theorem c_impl_IsSorting_1 (x:Int) (w:World) :
 Calls Tryz.prog 112 #[.int .i64 x] w fun e w'=>e=.returned (.bool (!(inR x 0 24)))∧Ext w w':=by
 go_enter Tryz.func112,Tryz.ntmps112
 go_wp2_with (go_at_call 55;refine (c_impl_within _ _ _ _).mono ?_;rintro e w' ⟨rfl,rfl⟩)
 go_ret
 exact ⟨rfl,xw⟩
theorem c_impl_IsSorting_2 (x:Int) (B:Nat) (a:Option Addr) (n k:Nat) (w:World) (hn:n≤1000000) (hc:w.cell? ⟨B,3,none⟩=some (.slice a n k)) :
 Calls Tryz.prog 114 #[.int .i64 x,.pointer (some ⟨B,0,none⟩)] w fun e w'=>e=.returned (.bool (!(inR x 0 ((n:Int) - 1))))∧Ext w w':=by
 have hw:=IntWalk.i64_in ((n:Int) - 1) (by omega)
 go_enter Tryz.func114,Tryz.ntmps114
 go_wp2_with (go_at_call 55;refine (c_impl_within _ _ _ _).mono ?_;rintro e w' ⟨rfl,rfl⟩)
 go_ret
 exact ⟨rfl,xw⟩
set_option maxRecDepth 100000 in
set_option maxHeartbeats 3200000 in
theorem c_spec_l7Sorts (lo hi lo' hi':Nat) (v v':Value) (sig:List Ctl) (nest:List (List Int)) (many:Int) (hm0:0≤many) (hm1:many≤1000000) (w:World) (h:CtlsV lo hi w v sig) (h':RowsV lo' hi' w v' nest) :
 Calls Tryz.prog 151 #[v,v',.int .i64 many] w fun e w'=>e=.returned (.bool (sortsB sig nest many))∧Ext w w':=by
 obtain ⟨a,k,rfl,g1,g2,g3,g4⟩:=h
 obtain ⟨a',k',rfl,m1,m2,m3,m4⟩:=h'
 unfold maxLen at g2 m2
 have hw:=IntWalk.i64_in (many - 1) (by omega)
 by_cases hll:nest.length=sig.length
 ·go_enter Tryz.func151,Tryz.ntmps151
  have hll':(nest.length:Int)=(sig.length:Int):=by omega
  have hnn:((nest.length:Int) != (sig.length:Int))=false:=by simp [hll']
  have HLL:=Lib.hid hll
  clear hll hll'
  go_wp2
  all_goals first|(exfalso;have:=HLL.out;simp_all;done)|skip
  go_loopw [7,8] (fun c _ wr=>∃i:Nat,c=.int .i64 i∧i≤nest.length∧(List.range i).all (sortsOk sig nest many)=true∧Ext w wr) (fun c _ _=>nest.length - (intOf c).toNat)
  case atStart=>exact ⟨0,rfl,Nat.zero_le _,rfl,xw⟩
  case round=>
   obtain ⟨i,rfl,hi0,hok,hx⟩:=hrel
   have HOK:=Lib.hid hok
   clear hok
   by_cases hlt:i<nest.length
   ·have hlt2:i<sig.length:=by rw [← HLL.out];exact hlt
    rcases g4 with g4|⟨b,o,rfl,gb1,gb2,g4⟩
    ·subst g4;simp at hlt2
    rcases m4 with m4|⟨b',o',rfl,mb1,mb2,m4⟩
    ·subst m4;simp at hlt
    have hbad:=sortsB_bad sig nest many i hlt
    have HA:=Lib.hid (sortsOk_at sig nest many i hlt2 hlt)
    have HS:=Lib.hid (range_all_succ (sortsOk sig nest many) i)
    obtain ⟨cs,hl,hP,hc⟩:=g4 i hlt2
    obtain ⟨rfl,e1,e2,e3⟩:=hP
    have q1:=hx.keep (hc 1 _ rfl)
    obtain ⟨ds,hdl,hD,hd⟩:=m4 i hlt
    obtain ⟨rv,rfl,hR⟩:=hD
    have r0:=hx.keep (hd 0 _ rfl)
    rw [Nat.mul_one,Nat.add_zero] at r0
    clear hc hd g4 m4
    have HR:=hR.keeps IntP.keeps (Same.ext hx)
    clear hR
    obtain ⟨ra,rk,rfl,r1,r2,r3,r4⟩:=HR
    unfold maxLen at r2
    unfold I64 at e2
    generalize hrow:nest[i]=row at *
    by_cases hp:(row.length:Int)=sig[i].ports
    ·have hpn:((row.length:Int) != sig[i].ports)=false:=by simp [hp]
     have HP:=Lib.hid hp
     clear hp
     go_wp2_with (go_quiet (fail))
     all_goals first|(exfalso;have:=HP.out;simp_all;done)|skip
     go_loopw [8] (fun c wi=>∃j:Nat,c=.int .i64 j∧j≤row.length∧(row.take j).all (fun x=>inR x 0 (many - 1))=true∧Ext wr wi) (fun c _=>row.length - (intOf c).toNat)
     case atStart=>exact ⟨0,rfl,Nat.zero_le _,rfl,xw⟩
     case round=>
      obtain ⟨j,rfl,hj0,hjok,hxi⟩:=hrel
      have HJ:=Lib.hid hjok
      clear hjok
      have r0':=hxi.keep r0
      by_cases hjl:j<row.length
      ·rcases r4 with r4|⟨rb,ro,rfl,rb1,rb2,r4⟩
       ·subst r4;simp at hjl
       obtain ⟨es,hel,⟨rfl,f1⟩,he⟩:=r4 j hjl
       have s0:=hxi.keep (he 0 _ rfl)
       rw [Nat.mul_one,Nat.add_zero] at s0
       clear he r4
       have HT:=Lib.hid (all_take_succ (fun x=>inR x 0 (many - 1)) row j hjl)
       have hb2:=all_bad (fun x=>inR x 0 (many - 1)) row j hjl
       cases h1:inR row[j] 0 (many - 1)
       ·have HB:=Lib.hid (hbad (by rw [HA.out,hb2 h1,Bool.and_false]))
        have H1:=Lib.hid h1
        clear h1 hb2 hbad
        go_wp2_with (go_at_call 106;refine (c_spec_l1In _ _ _ _).mono ?_;rintro e w' ⟨rfl,rfl⟩;rw [H1.out])
        go_ret
        exact ⟨ret_bool HB.out.symm,xw⟩
       ·have H1:=Lib.hid h1
        clear h1 hb2 hbad
        go_wp2_with (go_at_call 106;refine (c_spec_l1In _ _ _ _).mono ?_;rintro e w' ⟨rfl,rfl⟩;rw [H1.out])
        go_roundw
        case rel=>exact ⟨j+1,rfl,by omega,by rw [HT.out,HJ.out];simp [H1.out],xw⟩
        ·simp only [intOf];omega
      ·have hjr:row.take j=row:=List.take_of_length_le (by omega)
       have HG:=Lib.hid (show sortsOk sig nest many i=true by rw [HA.out,HP.out,← hjr,HJ.out];simp)
       clear hbad
       go_wp2
       go_roundw
       case rel=>exact ⟨i+1,rfl,by omega,by rw [HS.out,HOK.out,HG.out];rfl,xw⟩
       ·simp only [intOf];omega
    ·have HB:=Lib.hid (hbad (by rw [HA.out];simp [hp]))
     clear hbad
     go_wp2_with (go_quiet (fail))
     all_goals first|(go_ret;exact ⟨ret_bool HB.out.symm,xw⟩)|(exfalso;omega)
   ·have e:i=nest.length:=by omega
    subst e
    go_wp2
    go_ret
    exact ⟨ret_bool (by unfold sortsB;rw [HOK.out,HLL.out];simp),xw⟩
 ·go_enter Tryz.func151,Tryz.ntmps151
  go_wp2
  all_goals first
   | (exfalso;omega)
   | (go_ret;exact ⟨ret_bool (by unfold sortsB;simp [hll]),xw⟩)
end Go.Proofs.YtccjepndhlobpaaGreatDoor

/-
  Walks: pairs of sorts.
-/
namespace Go.Proofs.YtccjepndhlobpaaGreatDoor
open Go.RowKit
set_option linter.unusedVariables false
set_option linter.unusedSimpArgs false

theorem pair_b (p1 p2 many X:Int) (h:0≤p2→X=p2 - 1):(inR p1 0 X && inR p2 0 (many - 1))=(decide (0≤p1) && (decide (p1<p2) && decide (p2<many))):=by
 unfold inR
 rw [Bool.eq_iff_iff]
 simp only [Bool.and_eq_true,decide_eq_true_eq]
 by_cases h0:0≤p2
 ·rw [h h0];omega
 ·omega
def pairOk (many:Int) (l:List (Int × Int)) (i:Nat):Bool:=match l[i]? with
 | none=>true
 | some p=>(decide (0≤p.1) && (decide (p.1<p.2) && decide (p.2<many))) && (decide (i=0) || pairLt (l.getD (i - 1) (0,0)) p)
/-- Pairs are in order. -/
def pairsB (many:Int) (l:List (Int × Int)):Bool:=(List.range l.length).all (pairOk many l)
theorem pairOk_at (many:Int) (l:List (Int × Int)) (i:Nat) (h:i<l.length):pairOk many l i=((decide (0≤l[i].1) && (decide (l[i].1<l[i].2) && decide (l[i].2<many))) && (decide (i=0) || pairLt (l.getD (i - 1) (0,0)) l[i])):=by
 unfold pairOk;rw [List.getElem?_eq_getElem h]
theorem pairsB_bad (many:Int) (l:List (Int × Int)) (i:Nat) (h:i<l.length) (hb:pairOk many l i=false):pairsB many l=false:=range_all_bad _ _ i h hb
attribute [local irreducible] inR nameB riseB sigB nestB sortsB pairLt pairsB
set_option maxRecDepth 100000 in
set_option maxHeartbeats 3200000 in
theorem c_impl_arePairs (lo hi:Nat) (v:Value) (l:List (Int × Int)) (many:Int) (w:World) (h:PairsV lo hi w v l) (hm0:0≤many) (hm1:many≤1000000) :
 Calls Tryz.prog 113 #[v,.int .i64 many] w fun e w'=>e=.returned (.bool (pairsB many l))∧Ext w w':=by
 obtain ⟨a,k,rfl,g1,g2,g3,g4⟩:=h
 unfold maxLen at g2
 have hmw:=IntWalk.i64_in (many - 1) (by omega)
 go_enter Tryz.func113,Tryz.ntmps113
 go_wp2
 go_loopw [9] (fun c wr=>∃i:Nat,c=.int .i64 i∧i≤l.length∧(List.range i).all (pairOk many l)=true∧Ext w wr) (fun c _=>l.length - (intOf c).toNat)
 case atStart=>exact ⟨0,rfl,Nat.zero_le _,rfl,xw⟩
 case round=>
  obtain ⟨i,rfl,hi',hok,hx⟩:=hrel
  have HOK:=Lib.hid hok
  clear hok
  by_cases hlt:i<l.length
  ·rcases g4 with g4|⟨b,o,rfl,gb1,gb2,g4⟩
   ·subst g4;simp at hlt
   obtain ⟨cs,hl,⟨rfl,e1,e2⟩,hc⟩:=g4 i hlt
   have q0:=hx.keep (hc 0 _ rfl)
   have q1:=hx.keep (hc 1 _ rfl)
   rw [Nat.add_zero] at q0
   clear hc
   unfold I64 at e1 e2
   have hpb:=pair_b l[i].1 l[i].2 many (IntKind.i64.wrap (l[i].2 - 1)) (fun h0=>IntWalk.i64_in _ (by omega))
   generalize hX:IntKind.i64.wrap (l[i].2 - 1)=X at hpb
   have hbad:=pairsB_bad many l i hlt
   have hat:=pairOk_at many l i hlt
   rw [← hpb] at hat
   have hsucc:=range_all_succ (pairOk many l) i
   have HA:=Lib.hid hat
   have HS:=Lib.hid hsucc
   have HX:=Lib.hid hX
   clear hat hsucc hX hpb
   cases h1:inR l[i].1 0 X
   ·have HB:=Lib.hid (hbad (by rw [HA.out,h1];rfl))
    have H1:=Lib.hid h1
    clear h1 hbad
    go_wp2_with fail
    refine wp_region_held_drew (S:=(fun w'=>(w'.cell? ⟨wr.heap.size,0,none⟩=some (.int .i64 l[i].1)∧w'.cell? ⟨wr.heap.size,1,none⟩=some (.int .i64 l[i].2))∧Ext wr w')) (by kernel_rfl) ?_ (fun hHeld=>?_)
    ·exact ⟨⟨by simp,by simp⟩,xw⟩
    refine tkP 0 ?_ ?_ ?_;rotate_left;focus (intro w;go_simp;try with_reducible rfl)
    try simp only [Act.put,aput]
    refine tkY 1 ?_ ?_ ?_;rotate_left;focus (intro w hSw;(try dsimp only at hSw);obtain ⟨⟨s0,s1⟩,s2⟩:=hSw;go_simp;try with_reducible rfl)
    try simp only [Act.put,aput]
    refine tkP 2 ?_ ?_ ?_;rotate_left;focus (intro w;go_simp;try with_reducible rfl)
    try simp only [Act.put,aput]
    refine tkY 3 ?_ ?_ ?_;rotate_left;focus (intro w hSw;(try dsimp only at hSw);obtain ⟨⟨s0,s1⟩,s2⟩:=hSw;go_simp;try with_reducible rfl)
    try simp only [Act.put,aput]
    refine tkP 4 ?_ ?_ ?_;rotate_left;focus (intro w;go_simp;try with_reducible rfl)
    try simp only [Act.put,aput]
    refine wpAnyH_ready (rs:=[5]) (by kernel_rfl) (by simp) ?_
    refine AllReadyH.cons rfl (fun K hK=>?_) AllReadyH.nil
    (try simp only [aput])
    go_simp
    (go_at_call 55;refine (c_impl_within _ _ _ _).mono ?_;rintro e w' ⟨rfl,rfl⟩;rw [HX.out,H1.out])
    show K _ _
    refine hK.out _ _ (by exact hHeld) (fun hHeld=>?_)
    clear hK K
    try simp only [Act.put,aput]
    refine tkP 6 ?_ ?_ ?_;rotate_left;focus (intro w;go_simp;try with_reducible rfl)
    try simp only [Act.put,aput]
    refine tkP 7 ?_ ?_ ?_;rotate_left;focus (intro w;go_simp;try with_reducible rfl)
    try simp only [Act.put,aput]
    refine tkN 8 ?_
    try simp only [Act.put,aput]
    refine tkN 9 ?_
    try simp only [Act.put,aput]
    refine tkN 10 ?_
    try simp only [Act.put,aput]
    refine tkN 11 ?_
    try simp only [Act.put,aput]
    refine tkN 12 ?_
    try simp only [Act.put,aput]
    refine tkN 13 ?_
    try simp only [Act.put,aput]
    refine tkP 14 ?_ ?_ ?_;rotate_left;focus (intro w;go_simp;try with_reducible rfl)
    try simp only [Act.put,aput]
    refine tkP 15 ?_ ?_ ?_;rotate_left;focus (intro w;go_simp;try with_reducible rfl)
    try simp only [Act.put,aput]
    refine tkN 16 ?_
    try simp only [Act.put,aput]
    refine tkN 17 ?_
    try simp only [Act.put,aput]
    refine tkN 18 ?_
    try simp only [Act.put,aput]
    refine tkN 19 ?_
    try simp only [Act.put,aput]
    refine tkN 20 ?_
    try simp only [Act.put,aput]
    refine tkN 21 ?_
    try simp only [Act.put,aput]
    refine tkN 22 ?_
    try simp only [Act.put,aput]
    refine tkN 23 ?_
    try simp only [Act.put,aput]
    refine tkN 24 ?_
    try simp only [Act.put,aput]
    refine tkN 25 ?_
    try simp only [Act.put,aput]
    refine tkN 26 ?_
    try simp only [Act.put,aput]
    refine tkN 27 ?_
    try simp only [Act.put,aput]
    refine tkP 28 ?_ ?_ ?_;rotate_left;focus (intro w;go_simp;try with_reducible rfl)
    try simp only [Act.put,aput]
    refine wpAnyH_done (by kernel_rfl) ?_ _
    all_goals obtain ⟨_,hy⟩:=hHeld
    all_goals go_wp2
    all_goals go_ret
    all_goals exact ⟨ret_bool HB.out.symm,xw⟩
   ·have H1:=Lib.hid h1
    clear h1
    cases h2:inR l[i].2 0 (many - 1)
    ·have HB:=Lib.hid (hbad (by rw [HA.out,H1.out,h2];rfl))
     have H2:=Lib.hid h2
     clear h2 hbad
     go_wp2_with fail
     refine wp_region_held_drew (S:=(fun w'=>(w'.cell? ⟨wr.heap.size,0,none⟩=some (.int .i64 l[i].1)∧w'.cell? ⟨wr.heap.size,1,none⟩=some (.int .i64 l[i].2))∧Ext wr w')) (by kernel_rfl) ?_ (fun hHeld=>?_)
     ·exact ⟨⟨by simp,by simp⟩,xw⟩
     refine tkP 0 ?_ ?_ ?_;rotate_left;focus (intro w;go_simp;try with_reducible rfl)
     try simp only [Act.put,aput]
     refine tkY 1 ?_ ?_ ?_;rotate_left;focus (intro w hSw;(try dsimp only at hSw);obtain ⟨⟨s0,s1⟩,s2⟩:=hSw;go_simp;try with_reducible rfl)
     try simp only [Act.put,aput]
     refine tkP 2 ?_ ?_ ?_;rotate_left;focus (intro w;go_simp;try with_reducible rfl)
     try simp only [Act.put,aput]
     refine tkY 3 ?_ ?_ ?_;rotate_left;focus (intro w hSw;(try dsimp only at hSw);obtain ⟨⟨s0,s1⟩,s2⟩:=hSw;go_simp;try with_reducible rfl)
     try simp only [Act.put,aput]
     refine tkP 4 ?_ ?_ ?_;rotate_left;focus (intro w;go_simp;try with_reducible rfl)
     try simp only [Act.put,aput]
     refine wpAnyH_ready (rs:=[5]) (by kernel_rfl) (by simp) ?_
     refine AllReadyH.cons rfl (fun K hK=>?_) AllReadyH.nil
     (try simp only [aput])
     go_simp
     (go_at_call 55;refine (c_impl_within _ _ _ _).mono ?_;rintro e w' ⟨rfl,rfl⟩;rw [HX.out,H1.out])
     show K _ _
     refine hK.out _ _ (by exact hHeld) (fun hHeld=>?_)
     clear hK K
     try simp only [Act.put,aput]
     refine tkP 6 ?_ ?_ ?_;rotate_left;focus (intro w;go_simp;try with_reducible rfl)
     try simp only [Act.put,aput]
     refine tkP 7 ?_ ?_ ?_;rotate_left;focus (intro w;go_simp;try with_reducible rfl)
     try simp only [Act.put,aput]
     refine tkP 8 ?_ ?_ ?_;rotate_left;focus (intro w;go_simp;try with_reducible rfl)
     try simp only [Act.put,aput]
     refine tkY 9 ?_ ?_ ?_;rotate_left;focus (intro w hSw;(try dsimp only at hSw);obtain ⟨⟨s0,s1⟩,s2⟩:=hSw;go_simp;try with_reducible rfl)
     try simp only [Act.put,aput]
     refine tkP 10 ?_ ?_ ?_;rotate_left;focus (intro w;go_simp;try with_reducible rfl)
     try simp only [Act.put,aput]
     refine tkP 11 ?_ ?_ ?_;rotate_left;focus (intro w;go_simp;try with_reducible rfl)
     try simp only [Act.put,aput]
     refine wpAnyH_ready (rs:=[12]) (by kernel_rfl) (by simp) ?_
     refine AllReadyH.cons rfl (fun K hK=>?_) AllReadyH.nil
     (try simp only [aput])
     go_simp
     (go_at_call 55;refine (c_impl_within _ _ _ _).mono ?_;rintro e w' ⟨rfl,rfl⟩;rw [H2.out])
     show K _ _
     refine hK.out _ _ (by exact hHeld) (fun hHeld=>?_)
     clear hK K
     try simp only [Act.put,aput]
     refine tkP 13 ?_ ?_ ?_;rotate_left;focus (intro w;go_simp;try with_reducible rfl)
     try simp only [Act.put,aput]
     refine tkP 14 ?_ ?_ ?_;rotate_left;focus (intro w;go_simp;try with_reducible rfl)
     try simp only [Act.put,aput]
     refine tkP 15 ?_ ?_ ?_;rotate_left;focus (intro w;go_simp;try with_reducible rfl)
     try simp only [Act.put,aput]
     refine tkN 16 ?_
     try simp only [Act.put,aput]
     refine tkN 17 ?_
     try simp only [Act.put,aput]
     refine tkN 18 ?_
     try simp only [Act.put,aput]
     refine tkN 19 ?_
     try simp only [Act.put,aput]
     refine tkN 20 ?_
     try simp only [Act.put,aput]
     refine tkN 21 ?_
     try simp only [Act.put,aput]
     refine tkN 22 ?_
     try simp only [Act.put,aput]
     refine tkN 23 ?_
     try simp only [Act.put,aput]
     refine tkN 24 ?_
     try simp only [Act.put,aput]
     refine tkN 25 ?_
     try simp only [Act.put,aput]
     refine tkN 26 ?_
     try simp only [Act.put,aput]
     refine tkN 27 ?_
     try simp only [Act.put,aput]
     refine tkP 28 ?_ ?_ ?_;rotate_left;focus (intro w;go_simp;try with_reducible rfl)
     try simp only [Act.put,aput]
     refine wpAnyH_done (by kernel_rfl) ?_ _
     all_goals obtain ⟨_,hy⟩:=hHeld
     all_goals go_wp2
     all_goals go_ret
     all_goals exact ⟨ret_bool HB.out.symm,xw⟩
    ·have H2:=Lib.hid h2
     clear h2
     by_cases hi0:i=0
     ·subst hi0
      simp only [Nat.add_zero,Nat.zero_mul,Nat.zero_add] at q0 q1
      go_wp2_with fail
      refine wp_region_held_drew (S:=(fun w'=>(w'.cell? ⟨wr.heap.size,0,none⟩=some (.int .i64 l[0].1)∧w'.cell? ⟨wr.heap.size,1,none⟩=some (.int .i64 l[0].2))∧Ext wr w')) (by kernel_rfl) ?_ (fun hHeld=>?_)
      ·exact ⟨⟨by simp,by simp⟩,xw⟩
      refine tkP 0 ?_ ?_ ?_;rotate_left;focus (intro w;go_simp;try with_reducible rfl)
      try simp only [Act.put,aput]
      refine tkY 1 ?_ ?_ ?_;rotate_left;focus (intro w hSw;(try dsimp only at hSw);obtain ⟨⟨s0,s1⟩,s2⟩:=hSw;go_simp;try with_reducible rfl)
      try simp only [Act.put,aput]
      refine tkP 2 ?_ ?_ ?_;rotate_left;focus (intro w;go_simp;try with_reducible rfl)
      try simp only [Act.put,aput]
      refine tkY 3 ?_ ?_ ?_;rotate_left;focus (intro w hSw;(try dsimp only at hSw);obtain ⟨⟨s0,s1⟩,s2⟩:=hSw;go_simp;try with_reducible rfl)
      try simp only [Act.put,aput]
      refine tkP 4 ?_ ?_ ?_;rotate_left;focus (intro w;go_simp;try with_reducible rfl)
      try simp only [Act.put,aput]
      refine wpAnyH_ready (rs:=[5]) (by kernel_rfl) (by simp) ?_
      refine AllReadyH.cons rfl (fun K hK=>?_) AllReadyH.nil
      (try simp only [aput])
      go_simp
      (go_at_call 55;refine (c_impl_within _ _ _ _).mono ?_;rintro e w' ⟨rfl,rfl⟩;rw [HX.out,H1.out])
      show K _ _
      refine hK.out _ _ (by exact hHeld) (fun hHeld=>?_)
      clear hK K
      try simp only [Act.put,aput]
      refine tkP 6 ?_ ?_ ?_;rotate_left;focus (intro w;go_simp;try with_reducible rfl)
      try simp only [Act.put,aput]
      refine tkP 7 ?_ ?_ ?_;rotate_left;focus (intro w;go_simp;try with_reducible rfl)
      try simp only [Act.put,aput]
      refine tkP 8 ?_ ?_ ?_;rotate_left;focus (intro w;go_simp;try with_reducible rfl)
      try simp only [Act.put,aput]
      refine tkY 9 ?_ ?_ ?_;rotate_left;focus (intro w hSw;(try dsimp only at hSw);obtain ⟨⟨s0,s1⟩,s2⟩:=hSw;go_simp;try with_reducible rfl)
      try simp only [Act.put,aput]
      refine tkP 10 ?_ ?_ ?_;rotate_left;focus (intro w;go_simp;try with_reducible rfl)
      try simp only [Act.put,aput]
      refine tkP 11 ?_ ?_ ?_;rotate_left;focus (intro w;go_simp;try with_reducible rfl)
      try simp only [Act.put,aput]
      refine wpAnyH_ready (rs:=[12]) (by kernel_rfl) (by simp) ?_
      refine AllReadyH.cons rfl (fun K hK=>?_) AllReadyH.nil
      (try simp only [aput])
      go_simp
      (go_at_call 55;refine (c_impl_within _ _ _ _).mono ?_;rintro e w' ⟨rfl,rfl⟩;rw [H2.out])
      show K _ _
      refine hK.out _ _ (by exact hHeld) (fun hHeld=>?_)
      clear hK K
      try simp only [Act.put,aput]
      refine tkP 13 ?_ ?_ ?_;rotate_left;focus (intro w;go_simp;try with_reducible rfl)
      try simp only [Act.put,aput]
      refine tkP 14 ?_ ?_ ?_;rotate_left;focus (intro w;go_simp;try with_reducible rfl)
      try simp only [Act.put,aput]
      refine tkP 15 ?_ ?_ ?_;rotate_left;focus (intro w;go_simp;try with_reducible rfl)
      try simp only [Act.put,aput]
      refine tkP 16 ?_ ?_ ?_;rotate_left;focus (intro w;go_simp;try with_reducible rfl)
      try simp only [Act.put,aput]
      refine tkP 17 ?_ ?_ ?_;rotate_left;focus (intro w;go_simp;try with_reducible rfl)
      try simp only [Act.put,aput]
      refine tkP 18 ?_ ?_ ?_;rotate_left;focus (intro w;go_simp;try with_reducible rfl)
      try simp only [Act.put,aput]
      refine tkN 19 ?_
      try simp only [Act.put,aput]
      refine tkN 20 ?_
      try simp only [Act.put,aput]
      refine tkN 21 ?_
      try simp only [Act.put,aput]
      refine tkN 22 ?_
      try simp only [Act.put,aput]
      refine tkN 23 ?_
      try simp only [Act.put,aput]
      refine tkN 24 ?_
      try simp only [Act.put,aput]
      refine tkN 25 ?_
      try simp only [Act.put,aput]
      refine tkN 26 ?_
      try simp only [Act.put,aput]
      refine tkP 27 ?_ ?_ ?_;rotate_left;focus (intro w;go_simp;try with_reducible rfl)
      try simp only [Act.put,aput]
      refine tkP 28 ?_ ?_ ?_;rotate_left;focus (intro w;go_simp;try with_reducible rfl)
      try simp only [Act.put,aput]
      refine wpAnyH_done (by kernel_rfl) ?_ _
      all_goals obtain ⟨_,hy⟩:=hHeld
      all_goals go_wp2
      all_goals go_roundw
      case rel=>exact ⟨1,rfl,by omega,by rw [HS.out,HOK.out,HA.out,H1.out,H2.out];rfl,xw⟩
      all_goals (simp only [intOf];omega)
     ·obtain ⟨j,rfl⟩:∃j,i=j+1:=⟨i - 1,by omega⟩
      obtain ⟨ds,hdl,⟨rfl,d1,d2⟩,hd⟩:=g4 j (by omega)
      have r0:=hx.keep (hd 0 _ rfl)
      have r1:=hx.keep (hd 1 _ rfl)
      rw [Nat.add_zero] at r0
      have hg:l.getD j (0,0)=l[j]:=by rw [List.getD_eq_getElem?_getD,List.getElem?_eq_getElem (by omega)];rfl
      have HG:=Lib.hid hg
      have jw:=IntWalk.i64_in (((j+1:Nat):Int) - 1) (by omega)
      have je:((j+1:Nat):Int) - 1=j:=by omega
      have jlt:j<l.length:=by omega
      have jw3:=IntWalk.i64_in (j:Int) (by omega)
      have jp3:(0:Int)≤(j:Int):=by omega
      have jp4:(j:Int)<l.length:=by omega
      have jp:0≤(j:Int)+1:=by omega
      have jp2:(j:Int)+1<l.length:=by omega
      clear hg hd
      cases hle:pairLt l[j] l[j+1]
      ·have HB:=Lib.hid (hbad (by rw [HA.out,H1.out,H2.out,show j+1 - 1=j by omega,HG.out,hle];simp))
       clear hbad
       have HL:=Lib.hid hle
       clear hle
       go_wp2_with fail
       refine wp_region_held_drew (S:=(fun w'=>(w'.cell? ⟨wr.heap.size,0,none⟩=some (.int .i64 l[j+1].1)∧w'.cell? ⟨wr.heap.size,1,none⟩=some (.int .i64 l[j+1].2))∧Ext wr w')) (by kernel_rfl) ?_ (fun hHeld=>?_)
       ·exact ⟨⟨by simp,by simp⟩,xw⟩
       refine tkP 0 ?_ ?_ ?_;rotate_left;focus (intro w;go_simp;try with_reducible rfl)
       try simp only [Act.put,aput]
       refine tkY 1 ?_ ?_ ?_;rotate_left;focus (intro w hSw;(try dsimp only at hSw);obtain ⟨⟨s0,s1⟩,s2⟩:=hSw;have t0:=Ext.keep s2 r0;have t1:=Ext.keep s2 r1;go_simp;try with_reducible rfl)
       try simp only [Act.put,aput]
       refine tkP 2 ?_ ?_ ?_;rotate_left;focus (intro w;go_simp;try with_reducible rfl)
       try simp only [Act.put,aput]
       refine tkY 3 ?_ ?_ ?_;rotate_left;focus (intro w hSw;(try dsimp only at hSw);obtain ⟨⟨s0,s1⟩,s2⟩:=hSw;have t0:=Ext.keep s2 r0;have t1:=Ext.keep s2 r1;go_simp;try with_reducible rfl)
       try simp only [Act.put,aput]
       refine tkP 4 ?_ ?_ ?_;rotate_left;focus (intro w;go_simp;try with_reducible rfl)
       try simp only [Act.put,aput]
       refine wpAnyH_ready (rs:=[5]) (by kernel_rfl) (by simp) ?_
       refine AllReadyH.cons rfl (fun K hK=>?_) AllReadyH.nil
       (try simp only [aput])
       go_simp
       (go_at_call 55;refine (c_impl_within _ _ _ _).mono ?_;rintro e w' ⟨rfl,rfl⟩;rw [HX.out,H1.out])
       show K _ _
       refine hK.out _ _ (by exact hHeld) (fun hHeld=>?_)
       clear hK K
       try simp only [Act.put,aput]
       refine tkP 6 ?_ ?_ ?_;rotate_left;focus (intro w;go_simp;try with_reducible rfl)
       try simp only [Act.put,aput]
       refine tkP 7 ?_ ?_ ?_;rotate_left;focus (intro w;go_simp;try with_reducible rfl)
       try simp only [Act.put,aput]
       refine tkP 8 ?_ ?_ ?_;rotate_left;focus (intro w;go_simp;try with_reducible rfl)
       try simp only [Act.put,aput]
       refine tkY 9 ?_ ?_ ?_;rotate_left;focus (intro w hSw;(try dsimp only at hSw);obtain ⟨⟨s0,s1⟩,s2⟩:=hSw;have t0:=Ext.keep s2 r0;have t1:=Ext.keep s2 r1;go_simp;try with_reducible rfl)
       try simp only [Act.put,aput]
       refine tkP 10 ?_ ?_ ?_;rotate_left;focus (intro w;go_simp;try with_reducible rfl)
       try simp only [Act.put,aput]
       refine tkP 11 ?_ ?_ ?_;rotate_left;focus (intro w;go_simp;try with_reducible rfl)
       try simp only [Act.put,aput]
       refine wpAnyH_ready (rs:=[12]) (by kernel_rfl) (by simp) ?_
       refine AllReadyH.cons rfl (fun K hK=>?_) AllReadyH.nil
       (try simp only [aput])
       go_simp
       (go_at_call 55;refine (c_impl_within _ _ _ _).mono ?_;rintro e w' ⟨rfl,rfl⟩;rw [H2.out])
       show K _ _
       refine hK.out _ _ (by exact hHeld) (fun hHeld=>?_)
       clear hK K
       try simp only [Act.put,aput]
       refine tkP 13 ?_ ?_ ?_;rotate_left;focus (intro w;go_simp;try with_reducible rfl)
       try simp only [Act.put,aput]
       refine tkP 14 ?_ ?_ ?_;rotate_left;focus (intro w;go_simp;try with_reducible rfl)
       try simp only [Act.put,aput]
       refine tkP 15 ?_ ?_ ?_;rotate_left;focus (intro w;go_simp;try with_reducible rfl)
       try simp only [Act.put,aput]
       refine tkP 16 ?_ ?_ ?_;rotate_left;focus (intro w;go_simp;try with_reducible rfl)
       try simp only [Act.put,aput]
       refine tkP 17 ?_ ?_ ?_;rotate_left;focus (intro w;go_simp;try with_reducible rfl)
       try simp only [Act.put,aput]
       refine tkP 18 ?_ ?_ ?_;rotate_left;focus (intro w;go_simp;try with_reducible rfl)
       try simp only [Act.put,aput]
       refine tkP 19 ?_ ?_ ?_;rotate_left;focus (intro w;go_simp;try with_reducible rfl)
       try simp only [Act.put,aput]
       refine tkP 20 ?_ ?_ ?_;rotate_left;focus (intro w;go_simp;try with_reducible rfl)
       try simp only [Act.put,aput]
       refine tkP 21 ?_ ?_ ?_;rotate_left;focus (intro w;go_simp;try with_reducible rfl)
       try simp only [Act.put,aput]
       refine tkP 22 ?_ ?_ ?_;rotate_left;focus (intro w;go_simp;try with_reducible rfl)
       try simp only [Act.put,aput]
       refine tkY 23 ?_ ?_ ?_;rotate_left;focus (intro w hSw;(try dsimp only at hSw);obtain ⟨⟨s0,s1⟩,s2⟩:=hSw;have t0:=Ext.keep s2 r0;have t1:=Ext.keep s2 r1;go_simp;try with_reducible rfl)
       try simp only [Act.put,aput]
       refine tkY 24 ?_ ?_ ?_;rotate_left;focus (intro w hSw;(try dsimp only at hSw);obtain ⟨⟨s0,s1⟩,s2⟩:=hSw;have t0:=Ext.keep s2 r0;have t1:=Ext.keep s2 r1;go_simp;try with_reducible rfl)
       try simp only [Act.put,aput]
       refine wpAnyH_ready (rs:=[25]) (by kernel_rfl) (by simp) ?_
       refine AllReadyH.cons rfl (fun K hK=>?_) AllReadyH.nil
       (try simp only [aput])
       go_simp
       (go_at_call 165;refine (c_impl_comparePairs l[j] l[j+1] _).mono ?_;rintro e w' ⟨r,rfl,hr,hb⟩;rw [HL.out] at hr;have hr':0≤r:=(by simpa using hr);clear hr)
       show K _ _
       refine hK.out _ _ (by exact (by have hh:=hHeld;(try dsimp only at hh);exact ⟨⟨hb.keep hh.1.1,hb.keep hh.1.2⟩,hh.2.trans hb⟩)) (fun hHeld=>?_)
       clear hK K
       try simp only [Act.put,aput]
       refine tkP 26 ?_ ?_ ?_;rotate_left;focus (intro w;go_simp;try with_reducible rfl)
       try simp only [Act.put,aput]
       refine tkP 27 ?_ ?_ ?_;rotate_left;focus (intro w;go_simp;try with_reducible rfl)
       try simp only [Act.put,aput]
       refine tkP 28 ?_ ?_ ?_;rotate_left;focus (intro w;go_simp;try with_reducible rfl)
       try simp only [Act.put,aput]
       refine wpAnyH_done (by kernel_rfl) ?_ _
       all_goals obtain ⟨_,hy⟩:=hHeld
       all_goals go_wp2
       all_goals go_ret
       all_goals exact ⟨ret_bool HB.out.symm,xw⟩
      ·clear hbad
       have HL:=Lib.hid hle
       clear hle
       go_wp2_with fail
       refine wp_region_held_drew (S:=(fun w'=>(w'.cell? ⟨wr.heap.size,0,none⟩=some (.int .i64 l[j+1].1)∧w'.cell? ⟨wr.heap.size,1,none⟩=some (.int .i64 l[j+1].2))∧Ext wr w')) (by kernel_rfl) ?_ (fun hHeld=>?_)
       ·exact ⟨⟨by simp,by simp⟩,xw⟩
       refine tkP 0 ?_ ?_ ?_;rotate_left;focus (intro w;go_simp;try with_reducible rfl)
       try simp only [Act.put,aput]
       refine tkY 1 ?_ ?_ ?_;rotate_left;focus (intro w hSw;(try dsimp only at hSw);obtain ⟨⟨s0,s1⟩,s2⟩:=hSw;have t0:=Ext.keep s2 r0;have t1:=Ext.keep s2 r1;go_simp;try with_reducible rfl)
       try simp only [Act.put,aput]
       refine tkP 2 ?_ ?_ ?_;rotate_left;focus (intro w;go_simp;try with_reducible rfl)
       try simp only [Act.put,aput]
       refine tkY 3 ?_ ?_ ?_;rotate_left;focus (intro w hSw;(try dsimp only at hSw);obtain ⟨⟨s0,s1⟩,s2⟩:=hSw;have t0:=Ext.keep s2 r0;have t1:=Ext.keep s2 r1;go_simp;try with_reducible rfl)
       try simp only [Act.put,aput]
       refine tkP 4 ?_ ?_ ?_;rotate_left;focus (intro w;go_simp;try with_reducible rfl)
       try simp only [Act.put,aput]
       refine wpAnyH_ready (rs:=[5]) (by kernel_rfl) (by simp) ?_
       refine AllReadyH.cons rfl (fun K hK=>?_) AllReadyH.nil
       (try simp only [aput])
       go_simp
       (go_at_call 55;refine (c_impl_within _ _ _ _).mono ?_;rintro e w' ⟨rfl,rfl⟩;rw [HX.out,H1.out])
       show K _ _
       refine hK.out _ _ (by exact hHeld) (fun hHeld=>?_)
       clear hK K
       try simp only [Act.put,aput]
       refine tkP 6 ?_ ?_ ?_;rotate_left;focus (intro w;go_simp;try with_reducible rfl)
       try simp only [Act.put,aput]
       refine tkP 7 ?_ ?_ ?_;rotate_left;focus (intro w;go_simp;try with_reducible rfl)
       try simp only [Act.put,aput]
       refine tkP 8 ?_ ?_ ?_;rotate_left;focus (intro w;go_simp;try with_reducible rfl)
       try simp only [Act.put,aput]
       refine tkY 9 ?_ ?_ ?_;rotate_left;focus (intro w hSw;(try dsimp only at hSw);obtain ⟨⟨s0,s1⟩,s2⟩:=hSw;have t0:=Ext.keep s2 r0;have t1:=Ext.keep s2 r1;go_simp;try with_reducible rfl)
       try simp only [Act.put,aput]
       refine tkP 10 ?_ ?_ ?_;rotate_left;focus (intro w;go_simp;try with_reducible rfl)
       try simp only [Act.put,aput]
       refine tkP 11 ?_ ?_ ?_;rotate_left;focus (intro w;go_simp;try with_reducible rfl)
       try simp only [Act.put,aput]
       refine wpAnyH_ready (rs:=[12]) (by kernel_rfl) (by simp) ?_
       refine AllReadyH.cons rfl (fun K hK=>?_) AllReadyH.nil
       (try simp only [aput])
       go_simp
       (go_at_call 55;refine (c_impl_within _ _ _ _).mono ?_;rintro e w' ⟨rfl,rfl⟩;rw [H2.out])
       show K _ _
       refine hK.out _ _ (by exact hHeld) (fun hHeld=>?_)
       clear hK K
       try simp only [Act.put,aput]
       refine tkP 13 ?_ ?_ ?_;rotate_left;focus (intro w;go_simp;try with_reducible rfl)
       try simp only [Act.put,aput]
       refine tkP 14 ?_ ?_ ?_;rotate_left;focus (intro w;go_simp;try with_reducible rfl)
       try simp only [Act.put,aput]
       refine tkP 15 ?_ ?_ ?_;rotate_left;focus (intro w;go_simp;try with_reducible rfl)
       try simp only [Act.put,aput]
       refine tkP 16 ?_ ?_ ?_;rotate_left;focus (intro w;go_simp;try with_reducible rfl)
       try simp only [Act.put,aput]
       refine tkP 17 ?_ ?_ ?_;rotate_left;focus (intro w;go_simp;try with_reducible rfl)
       try simp only [Act.put,aput]
       refine tkP 18 ?_ ?_ ?_;rotate_left;focus (intro w;go_simp;try with_reducible rfl)
       try simp only [Act.put,aput]
       refine tkP 19 ?_ ?_ ?_;rotate_left;focus (intro w;go_simp;try with_reducible rfl)
       try simp only [Act.put,aput]
       refine tkP 20 ?_ ?_ ?_;rotate_left;focus (intro w;go_simp;try with_reducible rfl)
       try simp only [Act.put,aput]
       refine tkP 21 ?_ ?_ ?_;rotate_left;focus (intro w;go_simp;try with_reducible rfl)
       try simp only [Act.put,aput]
       refine tkP 22 ?_ ?_ ?_;rotate_left;focus (intro w;go_simp;try with_reducible rfl)
       try simp only [Act.put,aput]
       refine tkY 23 ?_ ?_ ?_;rotate_left;focus (intro w hSw;(try dsimp only at hSw);obtain ⟨⟨s0,s1⟩,s2⟩:=hSw;have t0:=Ext.keep s2 r0;have t1:=Ext.keep s2 r1;go_simp;try with_reducible rfl)
       try simp only [Act.put,aput]
       refine tkY 24 ?_ ?_ ?_;rotate_left;focus (intro w hSw;(try dsimp only at hSw);obtain ⟨⟨s0,s1⟩,s2⟩:=hSw;have t0:=Ext.keep s2 r0;have t1:=Ext.keep s2 r1;go_simp;try with_reducible rfl)
       try simp only [Act.put,aput]
       refine wpAnyH_ready (rs:=[25]) (by kernel_rfl) (by simp) ?_
       refine AllReadyH.cons rfl (fun K hK=>?_) AllReadyH.nil
       (try simp only [aput])
       go_simp
       (go_at_call 165;refine (c_impl_comparePairs l[j] l[j+1] _).mono ?_;rintro e w' ⟨r,rfl,hr,hb⟩;rw [HL.out] at hr;have hr':r<0:=(by simpa using hr);clear hr)
       show K _ _
       refine hK.out _ _ (by exact (by have hh:=hHeld;(try dsimp only at hh);exact ⟨⟨hb.keep hh.1.1,hb.keep hh.1.2⟩,hh.2.trans hb⟩)) (fun hHeld=>?_)
       clear hK K
       try simp only [Act.put,aput]
       refine tkP 26 ?_ ?_ ?_;rotate_left;focus (intro w;go_simp;try with_reducible rfl)
       try simp only [Act.put,aput]
       refine tkP 27 ?_ ?_ ?_;rotate_left;focus (intro w;go_simp;try with_reducible rfl)
       try simp only [Act.put,aput]
       refine tkP 28 ?_ ?_ ?_;rotate_left;focus (intro w;go_simp;try with_reducible rfl)
       try simp only [Act.put,aput]
       refine wpAnyH_done (by kernel_rfl) ?_ _
       all_goals obtain ⟨_,hy⟩:=hHeld
       all_goals go_wp2
       all_goals go_roundw
       case rel=>exact ⟨j+1+1,rfl,by omega,by rw [HS.out,HOK.out,HA.out,H1.out,H2.out,show j+1 - 1=j by omega,HG.out,HL.out];simp,xw⟩
       all_goals (simp only [intOf];omega)
  ·have e:i=l.length:=by omega
   subst e
   go_wp2
   go_ret
   exact ⟨ret_bool (by unfold pairsB;rw [HOK.out]),xw⟩
end Go.Proofs.YtccjepndhlobpaaGreatDoor
