/-
  Proved facts that the law leans on.
-/
import Derived.Test.YtacafmejcdgboaaGreatDoorZG2
import Derived.Shelf.Strings.Trim
import Derived.Shelf.Small.Utf8
import Derived.Shelf.Small.Bits
import Derived.Shelf.Small.Strs
import Derived.Shelf.Small.Wraps
import Derived.Shelf.Strconv.Itoa0
import Derived.Shelf.Strings.Search1
import Derived.Shelf.Strings.Runes
import Derived.Shelf.Strings.AsciiSet
import Derived.Shelf.Bits.Mul64
import Derived.Shelf.Unicode.DecodeSlow
import Derived.Shelf.Slices.Turned
import Derived.Shelf.Slices.Equal
import Derived.Shelf.Slices.Empties2
import Derived.Ground.SlgnProg
import Derived.Shelf.SlicesE.Equal
import Derived.Shelf.SlicesE.Compact
import Derived.Ground.SlgfProg
import Derived.Shelf.SlicesE.IndexFunc
import Derived.Shelf.SlicesE.DeleteFunc
import Derived.Test.YtacafmejcdgboaaGreatDoorProg
import Derived.Test.YtacafmejcdgboaaGreatDoorRows
import Derived.WalkSpells
import Derived.WalkLawsBesides
import Derived.Deep.DeepMust
import Derived.Lib.SliceRun
import Derived.Shelf.Strings.SlTrimAscii
import Derived.BigQuiet
import Derived.Deep.RegionWith
import Derived.Deep.DrawnRows
import Derived.Deep.RegionHeld3
namespace Go.Proofs
open Go.Shelf
def Tryz.lays160_ren : Go.Shelf.Ren := ⟨fun | 160 => 273 | 232 => 308 | 231 => 307 | 227 => 309 | 234 => 311 | 233 => 310 | 236 => 313 | 235 => 312 | 228 => 344 | 271 => 347 | 151 => 346 | 197 => 345 | 120 => 367 | 152 => 366 | 260 => 365 | 137 => 373 | 119 => 374 | 224 => 375 | 225 => 376 | 217 => 378 | 266 => 379 | n => n, fun | 9 => 9 | 4 => 4 | 3 => 3 | 5 => 5 | 117 => 302 | 116 => 301 | 0 => 0 | 124 => 305 | 21 => 21 | 105 => 327 | 46 => 264 | 119 => 348 | 139 => 351 | 138 => 350 | n => n, fun | 3 => 0 | 4 => 1 | n => n⟩
theorem Tryz.lays160 : Go.Proofs.Lays.n160 Tryz.prog Tryz.lays160_ren := {
  mixed := by kernel_rfl
  f119 := Tryz.func374.trans (congrArg some (by kernel_rfl))
  f120 := Tryz.func367.trans (congrArg some (by kernel_rfl))
  f137 := Tryz.func373.trans (congrArg some (by kernel_rfl))
  f151 := Tryz.func346.trans (congrArg some (by kernel_rfl))
  f152 := Tryz.func366.trans (congrArg some (by kernel_rfl))
  f160 := Tryz.func273.trans (congrArg some (by kernel_rfl))
  f197 := Tryz.func345.trans (congrArg some (by kernel_rfl))
  f217 := Tryz.func378.trans (congrArg some (by kernel_rfl))
  f224 := Tryz.func375.trans (congrArg some (by kernel_rfl))
  f225 := Tryz.func376.trans (congrArg some (by kernel_rfl))
  f227 := Tryz.func309.trans (congrArg some (by kernel_rfl))
  f228 := Tryz.func344.trans (congrArg some (by kernel_rfl))
  f231 := Tryz.func307.trans (congrArg some (by kernel_rfl))
  f232 := Tryz.func308.trans (congrArg some (by kernel_rfl))
  f233 := Tryz.func310.trans (congrArg some (by kernel_rfl))
  f234 := Tryz.func311.trans (congrArg some (by kernel_rfl))
  f235 := Tryz.func312.trans (congrArg some (by kernel_rfl))
  f236 := Tryz.func313.trans (congrArg some (by kernel_rfl))
  f260 := Tryz.func365.trans (congrArg some (by kernel_rfl))
  f266 := Tryz.func379.trans (congrArg some (by kernel_rfl))
  f271 := Tryz.func347.trans (congrArg some (by kernel_rfl))
  t0 := Tryz.underlying0
  a0 := Tryz.isAgg0
  z0 := Tryz.sizeOf0
  v0 := Tryz.zeroValue0
  t3 := Tryz.underlying3
  a3 := Tryz.isAgg3
  z3 := Tryz.sizeOf3
  v3 := Tryz.zeroValue3
  t4 := Tryz.underlying4
  a4 := Tryz.isAgg4
  z4 := Tryz.sizeOf4
  v4 := Tryz.zeroValue4
  t5 := Tryz.underlying5
  a5 := Tryz.isAgg5
  z5 := Tryz.sizeOf5
  v5 := Tryz.zeroValue5
  t9 := Tryz.underlying9
  a9 := Tryz.isAgg9
  z9 := Tryz.sizeOf9
  v9 := Tryz.zeroValue9
  t21 := Tryz.underlying21
  a21 := Tryz.isAgg21
  z21 := Tryz.sizeOf21
  v21 := Tryz.zeroValue21
  t46 := Tryz.underlying264
  a46 := Tryz.isAgg264
  z46 := Tryz.sizeOf264
  v46 := Tryz.zeroValue264
  t105 := Tryz.underlying327
  a105 := Tryz.isAgg327
  z105 := Tryz.sizeOf327
  v105 := Tryz.zeroValue327
  t116 := Tryz.underlying301
  a116 := Tryz.isAgg301
  z116 := Tryz.sizeOf301
  t117 := Tryz.underlying302
  a117 := Tryz.isAgg302
  z117 := Tryz.sizeOf302
  v117 := Tryz.zeroValue302
  t119 := Tryz.underlying348
  a119 := Tryz.isAgg348
  z119 := Tryz.sizeOf348
  t124 := Tryz.underlying305
  a124 := Tryz.isAgg305
  z124 := Tryz.sizeOf305
  v124 := Tryz.zeroValue305
  t138 := Tryz.underlying350
  a138 := Tryz.isAgg350
  z138 := Tryz.sizeOf350
  v138 := Tryz.zeroValue350
  t139 := Tryz.underlying351
  a139 := Tryz.isAgg351
  z139 := Tryz.sizeOf351
  v139 := Tryz.zeroValue351
  g3 := by kernel_rfl
  g4 := by kernel_rfl }
def Tryz.lays212_ren : Go.Shelf.Ren := ⟨fun | 212 => 261 | 263 => 285 | 264 => 286 | n => n, fun | 46 => 264 | 51 => 276 | 146 => 277 | 53 => 279 | 148 => 280 | n => n, fun | n => n⟩
theorem Tryz.lays212 : Go.Proofs.Lays.n212 Tryz.prog Tryz.lays212_ren := {
  mixed := by kernel_rfl
  f212 := Tryz.func261.trans (congrArg some (by kernel_rfl))
  f263 := Tryz.func285.trans (congrArg some (by kernel_rfl))
  f264 := Tryz.func286.trans (congrArg some (by kernel_rfl))
  t46 := Tryz.underlying264
  a46 := Tryz.isAgg264
  z46 := Tryz.sizeOf264
  v46 := Tryz.zeroValue264
  t51 := Tryz.underlying276
  a51 := Tryz.isAgg276
  z51 := Tryz.sizeOf276
  v51 := Tryz.zeroValue276
  t53 := Tryz.underlying279
  a53 := Tryz.isAgg279
  z53 := Tryz.sizeOf279
  v53 := Tryz.zeroValue279
  t146 := Tryz.underlying277
  a146 := Tryz.isAgg277
  z146 := Tryz.sizeOf277
  v146 := Tryz.zeroValue277
  t148 := Tryz.underlying280
  a148 := Tryz.isAgg280
  z148 := Tryz.sizeOf280
  v148 := Tryz.zeroValue280 }
open Go.RowKit Go.Lib in
theorem Tryz.bits_Mul (x y : Nat) (hx : x < 18446744073709551616) (hy : y < 18446744073709551616) (w : World) :
    Calls Tryz.prog 261 #[.int .u64 x, .int .u64 y] w fun e w' => e = .returned (.tuple #[.int .u64 ((x * y / 18446744073709551616 : Nat) : Int), .int .u64 ((x * y % 18446744073709551616 : Nat) : Int)]) ∧ w' = w := Any.bits_Mul Tryz.lays212 x y hx hy w
def Tryz.lays110_ren : Go.Shelf.Ren := ⟨fun | 110 => 237 | 109 => 265 | n => n, fun | 31 => 26 | 9 => 9 | 4 => 4 | 3 => 3 | 0 => 0 | n => n, fun | n => n⟩
theorem Tryz.lays110 : Go.Proofs.Lays.n110 Tryz.prog Tryz.lays110_ren := {
  mixed := by kernel_rfl
  f109 := Tryz.func265.trans (congrArg some (by kernel_rfl))
  f110 := Tryz.func237.trans (congrArg some (by kernel_rfl))
  t0 := Tryz.underlying0
  a0 := Tryz.isAgg0
  z0 := Tryz.sizeOf0
  v0 := Tryz.zeroValue0
  t3 := Tryz.underlying3
  a3 := Tryz.isAgg3
  z3 := Tryz.sizeOf3
  v3 := Tryz.zeroValue3
  t4 := Tryz.underlying4
  a4 := Tryz.isAgg4
  z4 := Tryz.sizeOf4
  v4 := Tryz.zeroValue4
  t9 := Tryz.underlying9
  a9 := Tryz.isAgg9
  z9 := Tryz.sizeOf9
  v9 := Tryz.zeroValue9
  t31 := Tryz.underlying26
  a31 := Tryz.isAgg26
  z31 := Tryz.sizeOf26
  v31 := Tryz.zeroValue26 }
open Go.Lib in
theorem Tryz.slices_Contains_string (b off n c : Nat) (zs : List ByteArray) (x : ByteArray) (w : World) (hz : n ≤ zs.length) (hbig : n ≤ 9223372036854775807) (hc : ∀ j, j < zs.length → w.cell? ⟨b, off + j, none⟩ = some (.string (zs.getD j ByteArray.empty))) :
    Calls Tryz.prog 237 #[.slice (some ⟨b, off, none⟩) n c, .string x] w fun e w' => e = .returned (.bool (Lib.containsS (zs.take n) x)) ∧ w' = w := Any.slices_Contains_string Tryz.lays110 b off n c zs x w hz hbig hc
open Go.Lib in
theorem Tryz.slices_Contains_string_empty (a : Option Addr) (c : Nat) (x : ByteArray) (w : World) :
    Calls Tryz.prog 237 #[.slice a 0 c, .string x] w fun e w' => e = .returned (.bool false) ∧ w' = w := Any.slices_Contains_string_empty Tryz.lays110 a c x w
end Go.Proofs
namespace Go.Proofs.YtacafmejcdgboaaGreatDoor
open Go.RowKit
set_option linter.unusedVariables false
set_option linter.unusedSimpArgs false
set_option maxHeartbeats 400000 in
theorem bt (n a b:Int) (w:World) :
 Calls Tryz.prog 100 #[.int .i64 n,.int .i64 a,.int .i64 b] w fun e w'=>e=.returned (.bool (inR n a b))∧w=w':=by
 by_cases h:a≤n
 ·go_enter Tryz.func100,Tryz.ntmps100
  go_wp2
  go_ret
  exact ⟨by simp [inR,h],rfl⟩
 ·go_enter Tryz.func100,Tryz.ntmps100
  go_wp2
  go_ret
  exact ⟨by simp [inR];omega,rfl⟩
set_option maxHeartbeats 400000 in
theorem io (n a b:Int) (w:World) :
 Calls Tryz.prog 90 #[.int .i64 n,.int .i64 a,.int .i64 b] w fun e w'=>e=.returned (.bool (inR n a b))∧w=w':=by
 by_cases h:a≤n
 ·go_enter Tryz.func90,Tryz.ntmps90
  go_wp2
  go_ret
  exact ⟨by simp [inR,h],rfl⟩
 ·go_enter Tryz.func90,Tryz.ntmps90
  go_wp2
  go_ret
  exact ⟨by simp [inR];omega,rfl⟩
end Go.Proofs.YtacafmejcdgboaaGreatDoor
namespace Go.Proofs.YtacafmejcdgboaaGreatDoor
open Go.RowKit
set_option linter.unusedVariables false
set_option linter.unusedSimpArgs false
theorem fE {α:Type} (p:α→Bool) (xs:List α) (i:Nat) (h:i<xs.length):(xs.take (i+1)).any p=((xs.take i).any p || p xs[i]):=by
 rw [List.take_succ_eq_append_getElem h,List.any_append,List.any_cons,List.any_nil,Bool.or_false]
theorem tt {α:Type} (p:α→Bool) (xs:List α) (i:Nat) (h:i<xs.length) (hp:p xs[i]=true):xs.any p=true:=List.any_eq_true.2 ⟨_,List.getElem_mem h,hp⟩
set_option maxHeartbeats 1600000 in
theorem iw (lo hi:Nat) (p:Int→Bool) (gf:FuncId) (lb:Array Value) (v:Value) (xs:List Int) (w:World) (h:SlV 1 fg lo hi w v xs) (eg:∀args w,(callFunc gf args).run Tryz.prog w=.ok (.enter gf args) w)
 (hf:∀(i:Nat) (h:i<xs.length) (cs:List Value) (W:World),Ext w W→fg lo hi W cs xs[i]→Calls Tryz.prog gf (#[.int .i64 xs[i]]++lb) W fun e W'=>e=.returned (.bool (p xs[i]))∧Ext W W') :
 Calls Tryz.prog 222 #[v,.func (.func gf) #[] lb] w fun e w'=>∃r:Int,e=.returned (.int .i64 r)∧decide (0≤r)=xs.any p∧Ext w w':=by
 obtain ⟨a,k,rfl,g1,g2,g3,g4⟩:=h
 unfold maxLen at g2
 go_enter Tryz.func222,Tryz.ntmps222
 go_wp2
 go_loopw [5,8] (fun _ c wr=>∃i:Nat,c=.int .i64 i∧i≤xs.length∧(xs.take i).any p=false∧Ext w wr) (fun _ c _=>xs.length - (intOf c).toNat)
 case atStart=>exact ⟨0,rfl,Nat.zero_le _,rfl,xw⟩
 case round=>
  obtain ⟨i,rfl,hi',hno,hx⟩:=hrel
  by_cases hlt:i<xs.length
  ·rcases g4 with g4|⟨b,o,rfl,gb1,gb2,g4⟩
   ·subst g4;simp at hlt
   ·obtain ⟨cs,hl,hP,hc⟩:=g4 i hlt
    have HP:=fg.keeps _ _ _ _ _ _ (fb.ext hx) hP
    have HF:=hf i hlt cs wr hx HP
    obtain ⟨rfl,e1⟩:=hP
    have q0:=hx.keep (hc 0 _ rfl)
    rw [Nat.mul_one,Nat.add_zero] at q0
    clear g4 hc hf
    have hsucc:=fE p xs i hlt
    have hany:=tt p xs i hlt
    generalize hpv:p xs[i]=pv at HF hsucc hany
    cases pv
    ·go_wp2_with (refine HF.mono ?_;rintro e y ⟨rfl,hb⟩)
     go_roundw
     case rel=>exact ⟨i+1,rfl,by omega,by rw [hsucc,hno];rfl,xw⟩
     ·simp only [intOf];omega
    ·have hA:=Lib.hid (hany rfl)
     clear hany hsucc
     go_wp2_with (refine HF.mono ?_;rintro e y ⟨rfl,hb⟩)
     go_ret
     exact ⟨_,rfl,by rw [hA.out];simp,xw⟩
  ·go_wp2
   go_ret
   rw [List.take_of_length_le (by omega)] at hno
   exact ⟨_,rfl,by rw [hno];rfl,xw⟩
theorem cG (lo hi:Nat) (p:Int→Bool) (gf:FuncId) (lb:Array Value) (v:Value) (xs:List Int) (w:World) (h:SlV 1 fg lo hi w v xs) (eg:∀args w,(callFunc gf args).run Tryz.prog w=.ok (.enter gf args) w)
 (hf:∀(i:Nat) (h:i<xs.length) (cs:List Value) (W:World),Ext w W→fg lo hi W cs xs[i]→Calls Tryz.prog gf (#[.int .i64 xs[i]]++lb) W fun e W'=>e=.returned (.bool (p xs[i]))∧Ext W W') :
 Calls Tryz.prog 156 #[v,.func (.func gf) #[] lb] w fun e w'=>e=.returned (.bool (xs.any p))∧Ext w w':=by
 have H:=iw lo hi p gf lb v xs w h eg hf
 clear hf
 generalize xs.any p=r0 at H ⊢
 go_enter Tryz.func156,Tryz.ntmps156
 go_wp2_with (go_at_call 222;refine H.mono ?_;rintro e y ⟨r,rfl,hr,hb⟩)
 all_goals go_ret
 all_goals exact ⟨aP (by simp),xw⟩
set_option maxHeartbeats 1600000 in
theorem dq (lo hi:Nat) (p:Ctl→Bool) (gf:FuncId) (lb:Array Value) (v:Value) (xs:List Ctl) (w:World) (h:SlV 3 jF lo hi w v xs) (eg:∀args w,(callFunc gf args).run Tryz.prog w=.ok (.enter gf args) w)
 (hf:∀(i:Nat) (h:i<xs.length) (cs:List Value) (W:World),Ext w W→jF lo hi W cs xs[i]→Calls Tryz.prog gf (#[.agg cs.toArray]++lb) W fun e W'=>e=.returned (.bool (p xs[i]))∧Ext W W') :
 Calls Tryz.prog 274 #[v,.func (.func gf) #[] lb] w fun e w'=>∃r:Int,e=.returned (.int .i64 r)∧decide (0≤r)=xs.any p∧Ext w w':=by
 obtain ⟨a,k,rfl,g1,g2,g3,g4⟩:=h
 unfold maxLen at g2
 go_enter Tryz.func274,Tryz.ntmps274
 go_wp2
 go_loopw [5,8] (fun _ c wr=>∃i:Nat,c=.int .i64 i∧i≤xs.length∧(xs.take i).any p=false∧Ext w wr) (fun _ c _=>xs.length - (intOf c).toNat)
 case atStart=>exact ⟨0,rfl,Nat.zero_le _,rfl,xw⟩
 case round=>
  obtain ⟨i,rfl,hi',hno,hx⟩:=hrel
  by_cases hlt:i<xs.length
  ·rcases g4 with g4|⟨b,o,rfl,gb1,gb2,g4⟩
   ·subst g4;simp at hlt
   ·obtain ⟨cs,hl,hP,hc⟩:=g4 i hlt
    have HP:=jF.keeps _ _ _ _ _ _ (fb.ext hx) hP
    have HF:=hf i hlt cs wr hx HP
    obtain ⟨rfl,e1,e2,e3⟩:=hP
    have q0:=hx.keep (hc 0 _ rfl)
    have q1:=hx.keep (hc 1 _ rfl)
    have q2:=hx.keep (hc 2 _ rfl)
    rw [Nat.add_zero] at q0
    clear g4 hc hf
    have hsucc:=fE p xs i hlt
    have hany:=tt p xs i hlt
    generalize hpv:p xs[i]=pv at HF hsucc hany
    cases pv
    ·go_wp2_with (refine HF.mono ?_;rintro e y ⟨rfl,hb⟩)
     go_roundw
     case rel=>exact ⟨i+1,rfl,by omega,by rw [hsucc,hno];rfl,xw⟩
     ·simp only [intOf];omega
    ·have hA:=Lib.hid (hany rfl)
     clear hany hsucc
     go_wp2_with (refine HF.mono ?_;rintro e y ⟨rfl,hb⟩)
     go_ret
     exact ⟨_,rfl,by rw [hA.out];simp,xw⟩
  ·go_wp2
   go_ret
   rw [List.take_of_length_le (by omega)] at hno
   exact ⟨_,rfl,by rw [hno];rfl,xw⟩
theorem cX (lo hi:Nat) (p:Ctl→Bool) (gf:FuncId) (lb:Array Value) (v:Value) (xs:List Ctl) (w:World) (h:SlV 3 jF lo hi w v xs) (eg:∀args w,(callFunc gf args).run Tryz.prog w=.ok (.enter gf args) w)
 (hf:∀(i:Nat) (h:i<xs.length) (cs:List Value) (W:World),Ext w W→jF lo hi W cs xs[i]→Calls Tryz.prog gf (#[.agg cs.toArray]++lb) W fun e W'=>e=.returned (.bool (p xs[i]))∧Ext W W') :
 Calls Tryz.prog 242 #[v,.func (.func gf) #[] lb] w fun e w'=>e=.returned (.bool (xs.any p))∧Ext w w':=by
 have H:=dq lo hi p gf lb v xs w h eg hf
 clear hf
 generalize xs.any p=r0 at H ⊢
 go_enter Tryz.func242,Tryz.ntmps242
 go_wp2_with (go_at_call 274;refine H.mono ?_;rintro e y ⟨r,rfl,hr,hb⟩)
 all_goals go_ret
 all_goals exact ⟨aP (by simp),xw⟩
set_option maxHeartbeats 1600000 in
theorem ey (lo hi:Nat) (p:Wr→Bool) (gf:FuncId) (lb:Array Value) (v:Value) (xs:List Wr) (w:World) (h:SlV 2 WrP lo hi w v xs) (eg:∀args w,(callFunc gf args).run Tryz.prog w=.ok (.enter gf args) w)
 (hf:∀(i:Nat) (h:i<xs.length) (cs:List Value) (W:World),Ext w W→WrP lo hi W cs xs[i]→Calls Tryz.prog gf (#[.agg cs.toArray]++lb) W fun e W'=>e=.returned (.bool (p xs[i]))∧Ext W W') :
 Calls Tryz.prog 244 #[v,.func (.func gf) #[] lb] w fun e w'=>∃r:Int,e=.returned (.int .i64 r)∧decide (0≤r)=xs.any p∧Ext w w':=by
 obtain ⟨a,k,rfl,g1,g2,g3,g4⟩:=h
 unfold maxLen at g2
 go_enter Tryz.func244,Tryz.ntmps244
 go_wp2
 go_loopw [5,8] (fun _ c wr=>∃i:Nat,c=.int .i64 i∧i≤xs.length∧(xs.take i).any p=false∧Ext w wr) (fun _ c _=>xs.length - (intOf c).toNat)
 case atStart=>exact ⟨0,rfl,Nat.zero_le _,rfl,xw⟩
 case round=>
  obtain ⟨i,rfl,hi',hno,hx⟩:=hrel
  by_cases hlt:i<xs.length
  ·rcases g4 with g4|⟨b,o,rfl,gb1,gb2,g4⟩
   ·subst g4;simp at hlt
   ·obtain ⟨cs,hl,hP,hc⟩:=g4 i hlt
    have HP:=WrP.keeps _ _ _ _ _ _ (fb.ext hx) hP
    have HF:=hf i hlt cs wr hx HP
    obtain ⟨rfl,e1,e2⟩:=hP
    have q0:=hx.keep (hc 0 _ rfl)
    have q1:=hx.keep (hc 1 _ rfl)
    rw [Nat.add_zero] at q0
    clear g4 hc hf
    have hsucc:=fE p xs i hlt
    have hany:=tt p xs i hlt
    generalize hpv:p xs[i]=pv at HF hsucc hany
    cases pv
    ·go_wp2_with (refine HF.mono ?_;rintro e y ⟨rfl,hb⟩)
     go_roundw
     case rel=>exact ⟨i+1,rfl,by omega,by rw [hsucc,hno];rfl,xw⟩
     ·simp only [intOf];omega
    ·have hA:=Lib.hid (hany rfl)
     clear hany hsucc
     go_wp2_with (refine HF.mono ?_;rintro e y ⟨rfl,hb⟩)
     go_ret
     exact ⟨_,rfl,by rw [hA.out];simp,xw⟩
  ·go_wp2
   go_ret
   rw [List.take_of_length_le (by omega)] at hno
   exact ⟨_,rfl,by rw [hno];rfl,xw⟩
theorem dH (lo hi:Nat) (p:Wr→Bool) (gf:FuncId) (lb:Array Value) (v:Value) (xs:List Wr) (w:World) (h:SlV 2 WrP lo hi w v xs) (eg:∀args w,(callFunc gf args).run Tryz.prog w=.ok (.enter gf args) w)
 (hf:∀(i:Nat) (h:i<xs.length) (cs:List Value) (W:World),Ext w W→WrP lo hi W cs xs[i]→Calls Tryz.prog gf (#[.agg cs.toArray]++lb) W fun e W'=>e=.returned (.bool (p xs[i]))∧Ext W W') :
 Calls Tryz.prog 174 #[v,.func (.func gf) #[] lb] w fun e w'=>e=.returned (.bool (xs.any p))∧Ext w w':=by
 have H:=ey lo hi p gf lb v xs w h eg hf
 clear hf
 generalize xs.any p=r0 at H ⊢
 go_enter Tryz.func174,Tryz.ntmps174
 go_wp2_with (go_at_call 244;refine H.mono ?_;rintro e y ⟨r,rfl,hr,hb⟩)
 all_goals go_ret
 all_goals exact ⟨aP (by simp),xw⟩
end Go.Proofs.YtacafmejcdgboaaGreatDoor
namespace Go.Proofs.YtacafmejcdgboaaGreatDoor
open Go.RowKit
set_option linter.unusedVariables false
set_option linter.unusedSimpArgs false
def wO (c:UInt8):Bool:=inR (c.toNat:Int) 97 122
def dp (s:ByteArray):Bool:=inR (s.size:Int) 1 4 && s.data.toList.all wO
def yU:List UInt8:=[97,98,99,100,101,102,103,104,105,106,107,108,109,110,111,112,113,114,115,116,117,118,119,120,121,122]
theorem FN:∀n:Fin 256,yU.contains (UInt8.ofNat n.val)=wO (UInt8.ofNat n.val):=by decide +kernel
theorem FX (c:UInt8):yU.contains c=wO c:=by
 have h:=FN ⟨c.toNat,c.toNat_lt⟩
 simpa using h
theorem mi (p:UInt8→Bool):∀l:List UInt8,l.dropWhile p = []↔l.all p=true:=by
 intro l
 induction l with
 | nil=>simp
 | cons x l ih=>
  rw [List.dropWhile_cons,List.all_cons]
  cases hx:p x
  ·simp
  ·simp only [if_true,Bool.true_and]
   exact ih
theorem qt (p:UInt8→Bool):∀l:List UInt8,(l.dropWhile p).all p=true→l.all p=true:=by
 intro l
 induction l with
 | nil=>intro h;rfl
 | cons x l ih=>
  rw [List.dropWhile_cons]
  cases hx:p x
  ·simp [hx]
  ·simp only [if_true,List.all_cons,hx,Bool.true_and]
   exact ih
theorem CL (l:List UInt8):(Lib.trimS l yU = [])↔l.all wO=true:=by
 have e:(fun c=>yU.contains c)=wO:=funext FX
 unfold Lib.trimS Lib.trimLeftS Lib.trimRightS
 show List.dropWhile (fun c=>yU.contains c) ((List.dropWhile (fun c=>yU.contains c) l.reverse).reverse) = []↔_
 rw [e,mi,List.all_reverse]
 constructor
 ·intro h
  have:=qt wO _ h
  rwa [List.all_reverse] at this
 ·intro h
  have h2:List.dropWhile wO l.reverse = []:=(mi wO _).2 (by rw [List.all_reverse];exact h)
  rw [h2];rfl
theorem xM (s:ByteArray):(⟨(Lib.trimS s.data.toList yU).toArray⟩:ByteArray).toList.isEmpty=s.data.toList.all wO:=by
 rw [Lib.toList_data]
 show (Lib.trimS s.data.toList yU).toArray.toList.isEmpty=_
 rw [List.toList_toArray]
 rw [Bool.eq_iff_iff,List.isEmpty_iff]
 exact CL _
attribute [local irreducible] inR
set_option maxRecDepth 100000 in
set_option maxHeartbeats 800000 in
theorem ed (s:ByteArray) (w:World) (hs:s.size≤maxLen) :
 Calls Tryz.prog 241 #[.string s] w fun e w'=>e=.returned (.bool (dp s))∧Ext w w':=by
 have hs':=hs
 unfold maxLen at hs'
 have HT:=Any.strings_Trim_laid Tryz.lays160 (by kernel_rfl) s ⟨yU.toArray⟩ w (by omega) (by decide) (ascii_of_all (by decide))
 change Calls Tryz.prog 273 _ _ _ at HT
 have HE:=Lib.hid (xM s)
 unfold dp
 cases h1:inR (s.size:Int) 1 4
 ·have H1:=Lib.hid h1
  clear h1
  go_enter Tryz.func241,Tryz.ntmps241
  go_wp2_with (go_at_call 100;refine (bt _ _ _ _).mono ?_;rintro e w' ⟨rfl,rfl⟩;rw [H1.out])
  go_ret
  exact ⟨rfl,xw⟩
 ·have H1:=Lib.hid h1
  clear h1
  have HE2:Hid ((⟨(Lib.trimS s.data.toList yU).toArray⟩:ByteArray).toList.isEmpty=s.data.toList.all wO):=HE
  generalize hT:(⟨(Lib.trimS s.data.toList yU).toArray⟩:ByteArray)=T at HE2
  have HT2:Calls Tryz.prog 273 #[.string s,.string ⟨yU.toArray⟩] w fun e w'=>e=.returned (.string T)∧Ext w w':=HT.mono fun e w' ⟨h,k⟩=>⟨by rw [h,← hT],k⟩
  clear HT HE hT
  go_enter Tryz.func241,Tryz.ntmps241
  go_wp2_with (first|(go_at_call 100;refine (bt _ _ _ _).mono ?_;rintro e w' ⟨rfl,rfl⟩;rw [H1.out])|(go_at_call 273;refine HT2.mono ?_;rintro e y ⟨rfl,hb⟩))
  go_ret
  exact ⟨aP (by first|exact HE2.out|simpa using HE2.out),xw⟩
set_option maxHeartbeats 800000 in
theorem lT (s:ByteArray) (w:World) (hs:s.size≤maxLen) :
 Calls Tryz.prog 195 #[.string s] w fun e w'=>e=.returned (.bool (dp s))∧Ext w w':=by
 unfold maxLen at hs
 have hlo:∀c:UInt8,wO c=(decide (97≤(c.toNat:Int)) && decide ((c.toNat:Int)≤122)):=fun c=>by unfold wO inR;rfl
 go_enter Tryz.func195,Tryz.ntmps195
 go_wp2
 go_loopw [3] (fun c wr=>∃k:Nat,k≤s.size∧c=.int .i64 k∧(s.data.toList.take k).all wO=true∧Ext w wr) (fun c _=>s.size - (intOf c).toNat)
 case atStart=>exact ⟨0,Nat.zero_le _,rfl,by simp,xw⟩
 case round=>
  obtain ⟨k,hk,rfl,hp,hx⟩:=hrel
  have HP:=Lib.hid hp
  clear hp
  by_cases hlt:k<s.size
  ·have hb:=Gi s k hlt
   have hsn:=Lib.hid (BZ s k hlt)
   have hat:=Lib.hid (GV s wO k hlt)
   have hl:=Lib.hid (hlo s[k])
   clear hlo
   by_cases h1:(s[k].toNat:Int)<97
   ·go_wp2
    go_ret
    exact ⟨aP (by unfold dp;rw [hat.out (by rw [hl.out];simp;omega),Bool.and_false]),xw⟩
   ·by_cases h2:(122:Int)<(s[k].toNat:Int)
    ·go_wp2
     go_ret
     exact ⟨aP (by unfold dp;rw [hat.out (by rw [hl.out];simp;omega),Bool.and_false]),xw⟩
    ·go_wp2
     go_roundw
     case rel=>exact ⟨k+1,by omega,rfl,by rw [hsn.out,List.all_append,HP.out,List.all_cons,hl.out];simp;omega,xw⟩
     ·simp only [intOf];omega
  ·have hta:=Lib.hid (Dp s k hlt)
   go_wp2_with (go_at_call 90;refine (io _ _ _ _).mono ?_;rintro e w' ⟨rfl,rfl⟩)
   go_ret
   exact ⟨aP (by unfold dp;rw [← hta.out,HP.out,Bool.and_true]),xw⟩
end Go.Proofs.YtacafmejcdgboaaGreatDoor
namespace Go.Proofs.YtacafmejcdgboaaGreatDoor
open Go.RowKit
set_option linter.unusedVariables false
set_option linter.unusedSimpArgs false
attribute [local irreducible] inR dp
def lH (a b:ByteArray):Bool:=a.toList == b.toList
def H7 (c:Ctl):Bool:=dp c.name && (inR c.ports 0 3 && inR c.kind 0 2)
def wn (l:List Ctl) (i:Nat) (c:Ctl):Bool:=!(l.take i).any (fun d=>lH d.name c.name)
def tB (l:List Ctl) (i:Nat):Bool:=match l[i]? with|none=>true|some c=>H7 c && wn l i c
def kV (l:List Ctl):Bool:=inR (l.length:Int) 1 6 && (List.range l.length).all (tB l)
theorem cW (f:Nat→Bool) (i:Nat):(List.range (i+1)).all f=((List.range i).all f && f i):=by
 rw [List.range_succ,List.all_append];simp
theorem br (f:Nat→Bool) (n i:Nat) (h:i<n) (hf:f i=false):(List.range n).all f=false:=by
 rw [List.all_eq_false]
 exact ⟨i,List.mem_range.2 h,by simp [hf]⟩
theorem rg (l:List Ctl) (i:Nat) (h:i<l.length):tB l i=(H7 l[i] && wn l i l[i]):=by
 unfold tB;rw [List.getElem?_eq_getElem h]
theorem w0 (l:List Ctl) (i:Nat) (h:i<l.length) (hb:tB l i=false):kV l=false:=by
 unfold kV;rw [br _ _ i h hb,Bool.and_false]
theorem SlV.take {α:Type} {P:Lie α} {size lo hi:Nat} {w:World} {a:Option Addr} {n k:Nat} {xs:List α} (h:SlV size P lo hi w (.slice a n k) xs) (i:Nat) (hi':i≤xs.length):SlV size P lo hi w (.slice a i k) (xs.take i):=by
 obtain ⟨a',k',e,g1,g2,g3,g4⟩:=h
 simp only [Value.slice.injEq] at e
 obtain ⟨rfl,rfl,rfl⟩:=e
 have hl:(xs.take i).length=i:=by rw [List.length_take];omega
 refine ⟨a,k,by rw [hl],by omega,g2,g3,?_⟩
 rcases g4 with g4|⟨b,o,rfl,h1,h2,g4⟩
 ·left;rw [g4];simp
 ·refine .inr ⟨b,o,rfl,h1,h2,fun j hj=>?_⟩
  obtain ⟨cs,c1,c2,c3⟩:=g4 j (by omega)
  exact ⟨cs,c1,by rw [List.getElem_take];exact c2,c3⟩
theorem kN (lo hi B:Nat) (cs:List Value) (d:Ctl) (nm:ByteArray) (W:World) (hP:jF lo hi W cs d) (hc:W.cell? ⟨B,0,none⟩=some (.string nm)) :
 Calls Tryz.prog 243 #[.agg cs.toArray,.pointer (some ⟨B,0,none⟩)] W fun e W'=>e=.returned (.bool (lH d.name nm))∧Ext W W':=by
 obtain ⟨rfl,e1,e2,e3⟩:=hP
 have hB:=World.block_lt_of_cell? W ⟨B,0,none⟩ hc
 have hne:¬B=W.heap.size:=by simp at hB;omega
 unfold lH
 go_enter Tryz.func243,Tryz.ntmps243
 go_wp2
 go_ret
 exact ⟨rfl,xw⟩
set_option maxRecDepth 100000 in
set_option maxHeartbeats 1600000 in
theorem ml (lo hi:Nat) (v:Value) (l:List Ctl) (w:World) (h:vN lo hi w v l) :
 Calls Tryz.prog 167 #[v] w fun e w'=>e=.returned (.bool (kV l))∧Ext w w':=by
 have hV:=h
 obtain ⟨a,k,rfl,g1,g2,g3,g4⟩:=h
 unfold maxLen at g2
 cases h1:inR (l.length:Int) 1 6
 ·have H1:=Lib.hid h1
  clear h1
  go_enter Tryz.func167,Tryz.ntmps167
  go_wp2_with (go_at_call 100;refine (bt _ _ _ _).mono ?_;rintro e w' ⟨rfl,rfl⟩;rw [H1.out])
  go_ret
  exact ⟨aP (by unfold kV;rw [H1.out];rfl),xw⟩
 ·have H1:=Lib.hid h1
  clear h1
  go_enter Tryz.func167,Tryz.ntmps167
  go_wp2_with (go_at_call 100;refine (bt _ _ _ _).mono ?_;rintro e w' ⟨rfl,rfl⟩;rw [H1.out])
  go_loopw [11] (fun c wr=>∃i:Nat,c=.int .i64 i∧i≤l.length∧(List.range i).all (tB l)=true∧Ext w wr) (fun c _=>l.length - (intOf c).toNat)
  case atStart=>exact ⟨0,rfl,Nat.zero_le _,rfl,xw⟩
  case round=>
   obtain ⟨i,rfl,hi',hok,hx⟩:=hrel
   have HOK:=Lib.hid hok
   clear hok
   by_cases hlt:i<l.length
   ·rcases g4 with g4|⟨b,o,rfl,gb1,gb2,g4⟩
    ·subst g4;simp at hlt
    ·obtain ⟨cs,hl,hP,hc⟩:=g4 i hlt
     have hbad:=w0 l i hlt
     have hat:=rg l i hlt
     have hsucc:=cW (tB l) i
     have HV:=hV.keeps jF.keeps (fb.ext hx)
     have HT:=HV.take i (by omega)
     obtain ⟨rfl,e1,e2,e3⟩:=hP
     have q0:=hx.keep (hc 0 _ rfl)
     have q1:=hx.keep (hc 1 _ rfl)
     have q2:=hx.keep (hc 2 _ rfl)
     rw [Nat.add_zero] at q0
     clear g4 hc hV
     have hcb:H7 l[i]=(dp l[i].name && (inR l[i].ports 0 3 && inR l[i].kind 0 2)):=rfl
     generalize hn:dp l[i].name=n1 at hcb
     generalize hp2:inR l[i].ports 0 3=n2 at hcb
     generalize hp3:inR l[i].kind 0 2=n3 at hcb
     have hfr:wn l i l[i] = !((l.take i).any (fun d=>lH d.name l[i].name)):=rfl
     generalize hp4:(l.take i).any (fun d=>lH d.name l[i].name)=n4 at hfr
     have HA:=Lib.hid hat
     have HC:=Lib.hid hcb
     have HF:=Lib.hid hfr
     have HS:=Lib.hid hsucc
     have H2:=Lib.hid hp2
     have H3:=Lib.hid hp3
     have H4:=Lib.hid hp4
     clear hat hcb hfr hsucc hp2 hp3 hp4
     go_wp2_with fail
     refine (ed _ _ e1).mono ?_
     rintro e y ⟨rfl,hb⟩
     rw [hn]
     clear hn
     have p0:=hb.keep (p:=⟨wr.heap.size,0,none⟩) (v:=.string l[i].name) (by simp)
     have p1:=hb.keep (p:=⟨wr.heap.size,1,none⟩) (v:=.int .i64 l[i].ports) (by simp)
     have p2:=hb.keep (p:=⟨wr.heap.size,2,none⟩) (v:=.int .i64 l[i].kind) (by simp)
     have hy:Ext wr y:=xw
     have HT':=HT.keeps jF.keeps (fb.ext hy)
     have hbad':n1=false∨n2=false∨n3=false∨n4=true→kV l=false:=fun hh=>hbad (by rw [HA.out,HC.out,HF.out];rcases hh with rfl|rfl|rfl|rfl <;> simp)
     cases n1
     ·have HB:=Lib.hid (hbad' (.inl rfl))
      go_wp2
      go_ret
      exact ⟨aP HB.out.symm,xw⟩
     ·cases n2
      ·have HB:=Lib.hid (hbad' (.inr (.inl rfl)))
       go_wp2_with (go_at_call 100;refine (bt _ _ _ _).mono ?_;rintro e w' ⟨rfl,rfl⟩;rw [H2.out])
       go_ret
       exact ⟨aP HB.out.symm,xw⟩
      ·cases n3
       ·have HB:=Lib.hid (hbad' (.inr (.inr (.inl rfl))))
        go_wp2_with (go_at_call 100;refine (bt _ _ _ _).mono ?_;rintro e w' ⟨rfl,rfl⟩;first|rw [H2.out]|rw [H3.out])
        go_ret
        exact ⟨aP HB.out.symm,xw⟩
       ·have hHB:=Lib.hid (fun h4=>hbad' (.inr (.inr (.inr h4))))
        have eg:∀args w,(callFunc 243 args).run Tryz.prog w=.ok (.enter 243 args) w:=enters_of Tryz.func243 (by kernel_rfl) rfl
        have HCF:=cX lo hi (fun d=>lH d.name l[i].name) 243 #[.pointer (some ⟨wr.heap.size,0,none⟩)] _ _ y HT' eg (fun j hj cs W hW hPW=>kN lo hi wr.heap.size cs _ l[i].name W hPW (hW.keep p0))
        rw [H4.out] at HCF
        clear hbad hbad' eg
        cases n4
        ·go_wp2_with (first|(go_at_call 100;refine (bt _ _ _ _).mono ?_;rintro e w' ⟨rfl,rfl⟩;first|rw [H2.out]|rw [H3.out])|(go_at_call 242;refine HCF.mono ?_;rintro e y2 ⟨rfl,hb2⟩))
         go_roundw
         case rel=>exact ⟨i+1,rfl,by omega,by rw [HS.out,HOK.out,HA.out,HC.out,HF.out];rfl,xw⟩
         ·simp only [intOf];omega
        ·have HB:=Lib.hid (hHB.out rfl)
         go_wp2_with (first|(go_at_call 100;refine (bt _ _ _ _).mono ?_;rintro e w' ⟨rfl,rfl⟩;first|rw [H2.out]|rw [H3.out])|(go_at_call 242;refine HCF.mono ?_;rintro e y2 ⟨rfl,hb2⟩))
         go_ret
         exact ⟨aP HB.out.symm,xw⟩
   ·go_wp2
    go_ret
    have e:i=l.length:=by omega
    subst e
    exact ⟨aP (by unfold kV;rw [H1.out,HOK.out];rfl),xw⟩
set_option maxRecDepth 100000 in
set_option maxHeartbeats 1600000 in
theorem sr (lo hi:Nat) (v:Value) (l:List Ctl) (w:World) (h:vN lo hi w v l) :
 Calls Tryz.prog 128 #[v] w fun e w'=>e=.returned (.bool (kV l))∧Ext w w':=by
 obtain ⟨a,k,rfl,g1,g2,g3,g4⟩:=h
 unfold maxLen at g2
 go_enter Tryz.func128,Tryz.ntmps128
 go_wp2
 go_loopw [3] (fun c wr=>∃i:Nat,c=.int .i64 i∧i≤l.length∧(List.range i).all (tB l)=true∧Ext w wr) (fun c _=>l.length - (intOf c).toNat)
 case atStart=>exact ⟨0,rfl,Nat.zero_le _,rfl,xw⟩
 case round=>
  obtain ⟨i,rfl,hi',hok,hx⟩:=hrel
  have HOK:=Lib.hid hok
  clear hok
  by_cases hlt:i<l.length
  ·rcases g4 with g4|⟨b,o,rfl,gb1,gb2,g4⟩
   ·subst g4;simp at hlt
   ·have hbad:=w0 l i hlt
    have hat:=rg l i hlt
    have hsucc:=cW (tB l) i
    obtain ⟨cs,hl,hP,hc⟩:=g4 i hlt
    obtain ⟨rfl,e1,e2,e3⟩:=hP
    have q0:=hx.keep (hc 0 _ rfl)
    have q1:=hx.keep (hc 1 _ rfl)
    have q2:=hx.keep (hc 2 _ rfl)
    rw [Nat.add_zero] at q0
    clear hc
    have hcb:H7 l[i]=(dp l[i].name && (inR l[i].ports 0 3 && inR l[i].kind 0 2)):=rfl
    generalize hn:dp l[i].name=n1 at hcb
    generalize hp2:inR l[i].ports 0 3=n2 at hcb
    generalize hp3:inR l[i].kind 0 2=n3 at hcb
    have hfr:wn l i l[i] = !((l.take i).any (fun d=>lH d.name l[i].name)):=rfl
    generalize hp4:(l.take i).any (fun d=>lH d.name l[i].name)=n4 at hfr
    have HA:=Lib.hid hat
    have HC:=Lib.hid hcb
    have HF:=Lib.hid hfr
    have HS:=Lib.hid hsucc
    have H2:=Lib.hid hp2
    have H3:=Lib.hid hp3
    have H4:=Lib.hid hp4
    clear hat hcb hfr hsucc hp2 hp3 hp4
    have hbad':n1=false∨n2=false∨n3=false∨n4=true→kV l=false:=fun hh=>hbad (by rw [HA.out,HC.out,HF.out];rcases hh with rfl|rfl|rfl|rfl <;> simp)
    go_wp2_with fail
    refine (lT _ _ e1).mono ?_
    rintro e y ⟨rfl,hb⟩
    rw [hn]
    clear hn
    replace q0:=hb.keep q0
    replace q1:=hb.keep q1
    replace q2:=hb.keep q2
    have hy:=hx.trans hb
    cases n1
    ·have HB:=Lib.hid (hbad' (.inl rfl))
     go_wp2
     go_ret
     exact ⟨aP HB.out.symm,xw⟩
    ·cases n2
     ·have HB:=Lib.hid (hbad' (.inr (.inl rfl)))
      go_wp2_with (go_at_call 90;refine (io _ _ _ _).mono ?_;rintro e w' ⟨rfl,rfl⟩;rw [H2.out])
      go_ret
      exact ⟨aP HB.out.symm,xw⟩
     ·cases n3
      ·have HB:=Lib.hid (hbad' (.inr (.inr (.inl rfl))))
       go_wp2_with (go_at_call 90;refine (io _ _ _ _).mono ?_;rintro e w' ⟨rfl,rfl⟩;first|rw [H2.out]|rw [H3.out])
       go_ret
       exact ⟨aP HB.out.symm,xw⟩
      ·have hHB:=Lib.hid (fun h4=>hbad' (.inr (.inr (.inr h4))))
       clear hbad hbad'
       go_wp2_with (go_at_call 90;refine (io _ _ _ _).mono ?_;rintro e w' ⟨rfl,rfl⟩;first|rw [H2.out]|rw [H3.out])
       go_loopw [4] (fun c wz=>∃j:Nat,c=.int .i64 j∧j≤i∧(l.take j).any (fun d=>lH d.name l[i].name)=false∧Ext y wz) (fun c _=>i - (intOf c).toNat)
       case atStart=>exact ⟨0,rfl,Nat.zero_le _,rfl,Ext.refl _⟩
       case round=>
        obtain ⟨j,rfl,hj',hno,hxz⟩:=hrel
        have HNO:=Lib.hid hno
        clear hno
        by_cases hji:j<i
        ·obtain ⟨ds,hdl,hD,hd⟩:=g4 j (by omega)
         obtain ⟨rfl,d1,d2,d3⟩:=hD
         have r0:=hxz.keep (hy.keep (hd 0 _ rfl))
         rw [Nat.add_zero] at r0
         have s0:=hxz.keep q0
         have hats:=Lib.hid (fE (fun d:Ctl=>lH d.name l[i].name) l j (by omega))
         have hany:lH l[j].name l[i].name=true→n4=true:=fun hh=>by
          rw [← H4.out]
          refine tt _ _ j (by rw [List.length_take];omega) ?_
          rw [List.getElem_take];exact hh
         have HANY:=Lib.hid hany
         clear hany hd
         have hse:lH l[j].name l[i].name=(l[j].name.toList == l[i].name.toList):=rfl
         cases hst:(l[j].name.toList == l[i].name.toList)
         ·rw [hst] at hse
          have HSE:=Lib.hid hse
          clear hse
          go_wp2_with (go_quiet (fail))
          go_roundw
          case rel=>exact ⟨j+1,rfl,by omega,by rw [hats.out,HNO.out];exact HSE.out,xw⟩
          ·simp only [intOf];omega
         ·rw [hst] at hse
          have HB:=Lib.hid (hHB.out (HANY.out hse))
          clear hse
          go_wp2_with (go_quiet (fail))
          go_ret
          exact ⟨aP HB.out.symm,xw⟩
        ·have e:j=i:=by omega
         subst e
         have hn4:n4=false:=by rw [← H4.out];exact HNO.out
         subst hn4
         go_wp2
         go_roundw
         case rel=>exact ⟨j+1,rfl,by omega,by rw [HS.out,HOK.out,HA.out,HC.out,HF.out];rfl,xw⟩
         ·simp only [intOf];omega
  ·have e:i=l.length:=by omega
   subst e
   go_wp2_with (go_at_call 90;refine (io _ _ _ _).mono ?_;rintro e w' ⟨rfl,rfl⟩)
   go_ret
   exact ⟨aP (by unfold kV;rw [HOK.out,Bool.and_true]),xw⟩
end Go.Proofs.YtacafmejcdgboaaGreatDoor
namespace Go.Proofs.YtacafmejcdgboaaGreatDoor
open Go.RowKit
set_option linter.unusedVariables false
set_option linter.unusedSimpArgs false
attribute [local irreducible] inR dp
end Go.Proofs.YtacafmejcdgboaaGreatDoor
namespace Go.Proofs.YtacafmejcdgboaaGreatDoor
open Go.RowKit
set_option linter.unusedVariables false
set_option linter.unusedSimpArgs false
attribute [local irreducible] inR dp kV
end Go.Proofs.YtacafmejcdgboaaGreatDoor
namespace Go.Proofs.YtacafmejcdgboaaGreatDoor
open Go.RowKit
set_option linter.unusedVariables false
set_option linter.unusedSimpArgs false
attribute [local irreducible] inR dp kV
theorem jc {α:Type} (p:α→Bool) (xs:List α) (i:Nat) (h:i<xs.length):(xs.take (i+1)).all p=((xs.take i).all p && p xs[i]):=by
 rw [List.take_succ_eq_append_getElem h,List.all_append,List.all_cons,List.all_nil,Bool.and_true]
theorem uy {α:Type} (p:α→Bool) (xs:List α) (i:Nat) (h:i<xs.length) (hp:p xs[i]=false):xs.all p=false:=by
 rw [List.all_eq_false];exact ⟨_,List.getElem_mem h,by simp [hp]⟩
end Go.Proofs.YtacafmejcdgboaaGreatDoor
namespace Go.Proofs.YtacafmejcdgboaaGreatDoor
open Go.RowKit
set_option linter.unusedVariables false
set_option linter.unusedSimpArgs false
attribute [local irreducible] inR dp kV
end Go.Proofs.YtacafmejcdgboaaGreatDoor
namespace Go.Proofs.YtacafmejcdgboaaGreatDoor
open Go.RowKit
set_option linter.unusedVariables false
set_option linter.unusedSimpArgs false
theorem dX (w:World) (cs:List Value) (T:TypeId):∃W0,w.alloc (.cells cs.toArray T)=W0∧dF W0 w.heap.size cs∧Ext w W0∧W0.heap.size=w.heap.size+1:=
 ⟨_,rfl,dF.new w T cs _ rfl,Ext.alloc (Ext.refl w) _,by simp⟩
theorem iK {α:Type} (p:α→Bool) (l:List α):l.any (fun x=>!(p x)) = !(l.all p):=by
 induction l with
 | nil=>rfl
 | cons x l ih=>simp only [List.any_cons,List.all_cons,ih];cases p x <;> simp
theorem bK {n a b:Int} (h:inR n a b=true):a≤n∧n≤b:=by unfold inR at h;simpa using h
theorem DJ {l:List Ctl} (h:kV l=true):1≤l.length∧l.length≤6:=by
 unfold kV at h
 have:=bK (Bool.and_eq_true_iff.1 h).1
 omega
attribute [local irreducible] inR dp kV
end Go.Proofs.YtacafmejcdgboaaGreatDoor
namespace Go.Proofs.YtacafmejcdgboaaGreatDoor
open Go.RowKit
set_option linter.unusedVariables false
set_option linter.unusedSimpArgs false
theorem C8 {w w':World} (h:w.grownBy w' none):Ext w w':=⟨h.os,h.tape,h.output,h.size,fun k hk=>h.block k hk (by simp)⟩
theorem tN:(Tryz.prog.info? 3).map (fun i=>(i.zero,i.size,i.bytes))=some (some (.int .i64 0),1,8):=by kernel_rfl
theorem Ap:(Tryz.prog.info? 9).map (fun i=>(i.zero,i.size,i.bytes))=some (some (.string ⟨#[]⟩),1,16):=by kernel_rfl
theorem Cr:(Tryz.prog.info? 261).map (fun i=>(i.zero,i.size,i.bytes))=some (some (.agg #[.int .i64 0,.int .i64 0]),2,16):=by kernel_rfl
end Go.Proofs.YtacafmejcdgboaaGreatDoor
namespace Go.Proofs.YtacafmejcdgboaaGreatDoor
open Go.RowKit
set_option linter.unusedVariables false
set_option linter.unusedSimpArgs false
attribute [local irreducible] inR dp kV
end Go.Proofs.YtacafmejcdgboaaGreatDoor
namespace Go.Proofs.YtacafmejcdgboaaGreatDoor
open Go.RowKit
set_option linter.unusedVariables false
set_option linter.unusedSimpArgs false
def cQ (a b:ByteArray):Bool:=Op.bytesLess a.toList b.toList
theorem jH:∀x y:List UInt8,(Op.bytesLess x y || (x == y)) = !(Op.bytesLess y x):=by
 intro x
 induction x with
 | nil=>intro y;cases y <;> simp [Op.bytesLess]
 | cons a x ih=>
  intro y
  cases y with
  | nil=>simp [Op.bytesLess]
  | cons b y=>
   simp only [Op.bytesLess]
   have hih:=ih y
   by_cases h1:a<b
   ·have h2:¬b<a:=by simp only [UInt8.lt_iff_toNat_lt] at *;omega
    have h3:¬b=a:=by intro h;subst h;exact h2 h1
    simp [h1,h2,h3]
   ·by_cases h2:b<a
    ·have h3:¬a=b:=by intro h;subst h;exact h1 h2
     simp [h1,h2,h3]
    ·have h3:a=b:=by
      simp only [UInt8.lt_iff_toNat_lt] at *
      exact UInt8.toNat_inj.1 (by omega)
     subst h3
     simp [h1]
     simpa using hih
theorem zb (a b:ByteArray):(Op.bytesLess a.toList b.toList || (a.toList == b.toList)) = !(cQ b a):=jH _ _
def Al (l:List ByteArray) (i:Nat):Bool:=match l[i]? with|none=>true|some s=>dp s && (decide (i=0) || cQ (l.getD (i - 1) ⟨#[]⟩) s)
def dj (l:List ByteArray):Bool:=(List.range l.length).all (Al l) && decide ((l.length:Int)≤16)
theorem rx (l:List ByteArray) (i:Nat) (h:i<l.length):Al l i=(dp l[i] && (decide (i=0) || cQ (l.getD (i - 1) ⟨#[]⟩) l[i])):=by
 unfold Al;rw [List.getElem?_eq_getElem h]
theorem pL (l:List ByteArray) (i:Nat) (h:i<l.length) (hb:Al l i=false):dj l=false:=by
 unfold dj;rw [br _ _ i h hb];rfl
attribute [local irreducible] inR dp cQ
set_option maxHeartbeats 1600000 in
theorem ki (lo hi:Nat) (v:Value) (l:List ByteArray) (w:World) (h:EY lo hi w v l) :
 Calls Tryz.prog 168 #[v] w fun e w'=>e=.returned (.bool (dj l))∧Ext w w':=by
 obtain ⟨a,k,rfl,g1,g2,g3,g4⟩:=h
 unfold maxLen at g2
 go_enter Tryz.func168,Tryz.ntmps168
 go_wp2
 go_loopw [7] (fun c wr=>∃i:Nat,c=.int .i64 i∧i≤l.length∧(List.range i).all (Al l)=true∧Ext w wr) (fun c _=>l.length - (intOf c).toNat)
 case atStart=>exact ⟨0,rfl,Nat.zero_le _,rfl,xw⟩
 case round=>
  obtain ⟨i,rfl,hi',hok,hx⟩:=hrel
  have HOK:=Lib.hid hok
  clear hok
  by_cases hlt:i<l.length
  ·rcases g4 with g4|⟨b,o,rfl,gb1,gb2,g4⟩
   ·subst g4;simp at hlt
   obtain ⟨cs,hl,⟨rfl,e1⟩,hc⟩:=g4 i hlt
   have q0:=hx.keep (hc 0 _ rfl)
   rw [Nat.mul_one,Nat.add_zero] at q0
   clear hc
   have hbad:=pL l i hlt
   have HA:=Lib.hid (rx l i hlt)
   have HS:=Lib.hid (cW (Al l) i)
   by_cases hn:i=0
   ·subst hn
    simp only [Nat.add_zero] at q0
    cases ha:dp l[0]
    have Ha:=Lib.hid ha;clear ha
    have HB:=Lib.hid (hbad (by rw [HA.out];simp [Ha.out]))
    clear hbad
    have isF:=trivial
    rotate_left
    have Ha:=Lib.hid ha;clear ha
    have HG:=Lib.hid (show Al l 0=true by rw [HA.out];simp [Ha.out])
    clear hbad
    have isP:=trivial
    all_goals go_wp2_with (first|(go_at_call 241;(refine (ed _ _ e1).mono ?_);rintro e y ⟨rfl,hb⟩;rw [Ha.out]))
    all_goals first|(have:=isF;go_ret;exact ⟨aP HB.out.symm,xw⟩)|(have:=isP;go_roundw;(case rel=>exact ⟨1,rfl,by omega,by rw [HS.out,HOK.out,HG.out];rfl,xw⟩);· simp only [intOf];omega)
   ·obtain ⟨j,rfl⟩:∃j,i=j+1:=⟨i - 1,by omega⟩
    obtain ⟨ds,hdl,⟨rfl,d1⟩,hd⟩:=g4 j (by omega)
    have r0:=hx.keep (hd 0 _ rfl)
    rw [Nat.mul_one,Nat.add_zero] at r0
    have hg:l.getD j ⟨#[]⟩=l[j]:=by rw [List.getD_eq_getElem?_getD,List.getElem?_eq_getElem (by omega)];rfl
    have HG:=Lib.hid hg
    have HLE:=Lib.hid (zb l[j+1] l[j])
    have jw:=IntWalk.i64_in (((j+1:Nat):Int) - 1) (by omega)
    have je:((j+1:Nat):Int) - 1=j:=by omega
    clear hd hg g4
    cases hle:cQ l[j] l[j+1]
    ·have HB:=Lib.hid (hbad (by rw [HA.out,show j+1 - 1=j by omega,HG.out,hle];simp))
     have hz:=HLE.out
     rw [hle] at hz
     have HZ:=Lib.hid hz
     clear hbad hle
     cases ha:dp l[j+1]
     ·have Ha:=Lib.hid ha
      clear ha hz
      go_wp2_with (go_at_call 241;refine (ed _ _ e1).mono ?_;rintro e y ⟨rfl,hb⟩;rw [Ha.out])
      go_ret
      exact ⟨aP HB.out.symm,xw⟩
     ·have Ha:=Lib.hid ha
      clear ha
      go_wp2_with (go_at_call 241;refine (ed _ _ e1).mono ?_;rintro e y ⟨rfl,hb⟩;rw [Ha.out];replace r0:=hb.keep r0)
      all_goals first
       | (go_ret;exact ⟨aP HB.out.symm,xw⟩)
       | (exfalso;have hh:=HZ.out;simp_all;done)
    ·have hz:=HLE.out
     rw [hle] at hz
     have HL:=Lib.hid hle
     have HZ:=Lib.hid hz
     clear hle
     cases ha:dp l[j+1]
     ·have HB:=Lib.hid (hbad (by rw [HA.out,ha];rfl))
      have Ha:=Lib.hid ha
      clear ha hbad hz
      go_wp2_with (go_at_call 241;refine (ed _ _ e1).mono ?_;rintro e y ⟨rfl,hb⟩;rw [Ha.out])
      go_ret
      exact ⟨aP HB.out.symm,xw⟩
     ·have HG2:=Lib.hid (show Al l (j+1)=true by rw [HA.out,show j+1 - 1=j by omega,HG.out,ha,HL.out];simp)
      have Ha:=Lib.hid ha
      clear ha hbad
      go_wp2_with (go_at_call 241;refine (ed _ _ e1).mono ?_;rintro e y ⟨rfl,hb⟩;rw [Ha.out];replace r0:=hb.keep r0)
      all_goals first
       | (exfalso;have hh:=HZ.out;simp_all;done)
       | (go_roundw
          case rel=>exact ⟨j+1+1,rfl,by omega,by rw [HS.out,HOK.out,HG2.out];rfl,xw⟩
          case measure=>simp only [intOf];omega)
  ·have e:i=l.length:=by omega
   subst e
   have HL:=Lib.hid (show dj l=decide ((l.length:Int)≤16) by unfold dj;rw [HOK.out];rfl)
   go_wp2
   go_ret
   exact ⟨aP HL.out.symm,xw⟩
end Go.Proofs.YtacafmejcdgboaaGreatDoor
namespace Go.Proofs.YtacafmejcdgboaaGreatDoor
open Go.RowKit
set_option linter.unusedVariables false
set_option linter.unusedSimpArgs false
def rJ (sig:List Ctl) (k:Int):Ctl:=sig.getD k.toNat ⟨⟨#[]⟩,0,0⟩
def dR (b:Big) (k:Int):Nd:=b.nodes.getD k.toNat ⟨0,0,[]⟩
def di (sig:List Ctl) (b:Big) (p below:Int):Bool:=if p<0 then decide (-b.roots≤p) else decide (p<below) && !(decide ((rJ sig (dR b p).control).kind=2))
def eq (b:Big) (l:Int):Bool:=inR l 0 (b.edges+b.outer.length - 1)
def zH (sig:List Ctl) (b:Big) (n:Int):Prop:=∀i (h:i<b.nodes.length),(i:Int)<n→0≤b.nodes[i].control∧b.nodes[i].control<sig.length
theorem aD (b:Big) (i:Nat) (h:i<b.nodes.length):dR b i=b.nodes[i]:=by
 unfold dR;rw [Int.toNat_natCast,List.getD_eq_getElem?_getD,List.getElem?_eq_getElem h];rfl
theorem jb (sig:List Ctl) (i:Nat) (h:i<sig.length):rJ sig i=sig[i]:=by
 unfold rJ;rw [Int.toNat_natCast,List.getD_eq_getElem?_getD,List.getElem?_eq_getElem h];rfl
theorem pX {sig:List Ctl} {b:Big} {p below:Int} (h:p<0):di sig b p below=decide (-b.roots≤p):=if_pos h
theorem tM {sig:List Ctl} {b:Big} {p below:Int} (h:p<0) (h2:I64 p):inR (-1 - p) 0 (b.roots - 1)=di sig b p below:=by
 rw [pX h];unfold inR;rw [Bool.eq_iff_iff];simp;omega
theorem xr {sig:List Ctl} {b:Big} {p below:Int} (h:¬p<0):di sig b p below=(decide (p<below) && !(decide ((rJ sig (dR b p).control).kind=2))):=if_neg h
theorem ye (xs:List Wr) (i:Nat) (h:i<xs.length):(xs.take (i+1)).map Wr.name=(xs.take i).map Wr.name++[xs[i].name]:=by
 rw [List.take_succ_eq_append_getElem h,List.map_append];rfl
theorem CI {α β:Type} (f:α→β) (xs:List α) (i:Nat) (h:i≤xs.length):((xs.take i).map f).length=i:=by simp;omega
attribute [local irreducible] inR dp cQ
set_option maxRecDepth 100000 in
set_option maxHeartbeats 1600000 in
theorem iL (lo hi:Nat) (cs:List Value) (b:Big) (w:World) (h:gT lo hi w cs b) (hlen:b.inner.length≤1048576) :
 Calls Tryz.prog 169 #[.agg cs.toArray] w fun e w'=>∃v,e=.returned v∧SlV 1 m8 w.heap.size w'.heap.size w' v (b.inner.map Wr.name)∧Ext w w':=by
 obtain ⟨v1,v2,v4,v5,rfl,r1,r2,hN,hS,hO,hI⟩:=h
 obtain ⟨a5,k5,rfl,g1,g2,g3,g4⟩:=hI
 unfold maxLen at g2
 obtain ⟨i0,hi0,hz0,hz1,hz2⟩:=info_parts Ap
 obtain ⟨W0,hW0,hbx,hx0,hz⟩:=dX w [.int .i64 b.roots,v1,v2,.int .i64 b.edges,v4,.slice a5 b.inner.length k5] 46
 have p5:=(hbx 5 _ rfl).1
 have hrow0:kB 1 m8 9 W0.heap.size (W0.alloc (.cells #[] 9)) (.slice (some ⟨W0.heap.size,0,none⟩) 0 0) []:=kB.made (Nat.le_refl _)
 have hz':w.heap.size<W0.heap.size:=by omega
 clear hz
 go_enter Tryz.func169,Tryz.ntmps169
 go_wp2
 go_loopw [10,3] (fun c v wr=>∃i:Nat,c=.int .i64 i∧i≤b.inner.length∧kB 1 m8 9 W0.heap.size wr v ((b.inner.take i).map Wr.name)∧Ext W0 wr) (fun c _ _=>b.inner.length - (intOf c).toNat)
 case atStart=>exact ⟨0,rfl,Nat.zero_le _,by simpa using hrow0,xw⟩
 case round=>
  obtain ⟨i,rfl,hi',hrow,hx⟩:=hrel
  replace p5:=hx.keep p5
  have hX:Ext w wr:=xw
  by_cases hlt:i<b.inner.length
  ·rcases g4 with g4|⟨b',o,rfl,gb1,gb2,g4⟩
   ·rw [g4] at hlt;simp at hlt
   obtain ⟨cs,hl,⟨rfl,e1,e2⟩,hc⟩:=g4 i hlt
   have q0:=hX.keep (hc 0 _ rfl)
   have q1:=hX.keep (hc 1 _ rfl)
   rw [Nat.add_zero] at q0
   clear hc g4
   have HT:=Lib.hid (ye b.inner i hlt)
   have HL:=Lib.hid (CI Wr.name b.inner i hi')
   have hsz:=Below.size hx
   go_wp2_with (at_builtin;refine ne m8.keeps rfl (.tmp 14) (.tmp 17) 26 rfl (W0.heap.size) 9 i0 _ 16 Tryz.underlying26 hi0 hz0 hz1 hz2 rfl (by decide) _ _ (by rfl) (hrow.ext m8.keeps xw) ⟨wr.heap.size+1,0,none⟩ 1 [.string b.inner[i].name] rfl rfl (nQ (by simp)) (by simp [Value.oneCell']) (W0.heap.size) (W0.heap.size) (Nat.le_refl _) (by first|omega|(simp;omega)) (fun g hg=>.inr (hrow.block g hg).1) (b.inner[i].name) ⟨rfl,e1⟩ (by first|omega|(simp;omega)) (by decide) (by first|omega|(simp;omega)) ?_;intro v3 w3 row3 ext3)
   have hx3:=ext3 W0 xw (Nat.le_refl _)
   go_roundw
   case rel=>exact ⟨i+1,rfl,by omega,by rw [HT.out];exact row3,xw⟩
   ·simp only [intOf];omega
  ·have HT:=Lib.hid (show b.inner.take i=b.inner from List.take_of_length_le (by omega))
   go_wp2
   go_ret
   rw [HT.out] at hrow
   exact ⟨_,rfl,hrow.toSlV m8.widens (by omega),hX⟩
theorem gr (lo hi:Nat) (cs:List Value) (b:Big) (l:Int) (w:World) (h:gT lo hi w cs b) (he:inR b.edges 0 8=true) (ho:b.outer.length≤1000) :
 Calls Tryz.prog 172 #[.agg cs.toArray,.int .i64 l] w fun e w'=>e=.returned (.bool (eq b l))∧Ext w w':=by
 obtain ⟨v1,v2,v4,v5,rfl,r1,r2,hN,hS,hO,hI⟩:=h
 obtain ⟨a4,k4,rfl,g1,g2,g3,g4⟩:=hO
 have he':=bK he
 unfold maxLen at g2
 clear he
 obtain ⟨W0,hW0,hbx,hx0,hz⟩:=dX w [.int .i64 b.roots,v1,v2,.int .i64 b.edges,.slice a4 b.outer.length k4,v5] 46
 have p3:=(hbx 3 _ rfl).1
 have p4:=(hbx 4 _ rfl).1
 clear hz g4 hbx
 go_enter Tryz.func172,Tryz.ntmps172
 go_wp2_with (go_at_call 100;refine (bt _ _ _ _).mono ?_;rintro e y ⟨rfl,rfl⟩)
 go_ret
 exact ⟨rfl,hx0⟩
set_option maxHeartbeats 800000 in
theorem cB (lo hi lo' hi':Nat) (v:Value) (sig:List Ctl) (cs:List Value) (b:Big) (p below:Int) (w:World) (hV:vN lo hi w v sig) (h:gT lo' hi' w cs b) (hp:I64 p) (hr:inR b.roots 0 4=true) (hb0:below≤b.nodes.length) (hc:zH sig b below) :
 Calls Tryz.prog 170 #[.agg cs.toArray,v,.int .i64 p,.int .i64 below] w fun e w'=>e=.returned (.bool (di sig b p below))∧Ext w w':=by
 obtain ⟨v1,v2,v4,v5,rfl,r1,r2,hN,hS,hO,hI⟩:=h
 obtain ⟨a1,k1,rfl,g1,g2,g3,g4⟩:=hN
 obtain ⟨a,k,rfl,m1,m2,m3,m4⟩:=hV
 have hr':=bK hr
 unfold maxLen at g2 m2
 clear hr
 obtain ⟨W0,hW0,hbx,hx0,hz⟩:=dX w [.int .i64 b.roots,.slice a1 b.nodes.length k1,v2,.int .i64 b.edges,v4,v5] 46
 have p0:=(hbx 0 _ rfl).1
 have p1:=(hbx 1 _ rfl).1
 clear hz hbx
 by_cases hn:p<0
 ·have HU:=Lib.hid (pX (sig:=sig) (b:=b) (below:=below) hn)
  go_enter Tryz.func170,Tryz.ntmps170
  go_wp2
  go_ret
  exact ⟨aP HU.out.symm,hx0⟩
 ·have HU:=Lib.hid (xr (sig:=sig) (b:=b) (below:=below) hn)
  by_cases hlt:p<below
  ·obtain ⟨n,rfl⟩:=Int.eq_ofNat_of_zero_le (show 0≤p by omega)
   have hnl:n<b.nodes.length:=by omega
   obtain ⟨c1,c2⟩:=hc n hnl hlt
   rcases g4 with g4|⟨b1,o1,rfl,gb1,gb2,g4⟩
   ·rw [g4] at hnl;simp at hnl
   obtain ⟨cs,hl,⟨nv,rfl,e1,e2,e3⟩,hcs⟩:=g4 n hnl
   have q0:=hx0.keep (hcs 0 _ rfl)
   rw [Nat.add_zero] at q0
   obtain ⟨m,hm⟩:=Int.eq_ofNat_of_zero_le c1
   have hml:m<sig.length:=by omega
   rcases m4 with m4|⟨b2,o2,rfl,mb1,mb2,m4⟩
   ·rw [m4] at hml;simp at hml
   obtain ⟨ds,dl,⟨rfl,d1,d2,d3⟩,hds⟩:=m4 m hml
   have s2:=hx0.keep (hds 2 _ rfl)
   have HK:=Lib.hid (show rJ sig (dR b (n:Int)).control=sig[m] by rw [aD b n hnl,hm,jb sig m hml])
   rw [hm] at q0
   clear hm hcs hds g4 m4 c1 c2 hc
   have dd:decide ((n:Int)<below)=true:=decide_eq_true hlt
   go_enter Tryz.func170,Tryz.ntmps170
   go_wp2
   go_ret
   exact ⟨aP (by rw [HU.out,HK.out,dd];by_cases hh:sig[m].kind=2 <;> simp [hh]),hx0⟩
  ·have dd:decide (p<below)=false:=decide_eq_false hlt
   go_enter Tryz.func170,Tryz.ntmps170
   go_wp2
   go_ret
   exact ⟨aP (by rw [HU.out,dd];rfl),hx0⟩
theorem iG (lo hi B:Nat) (cs:List Value) (b:Big) (l:Int) (w:World) (h:gT lo hi w cs b) (he:inR b.edges 0 8=true) (ho:b.outer.length≤1000) (hbx:∀j u,cs[j]? = some u→w.cell? ⟨B,j,none⟩=some u) :
 Calls Tryz.prog 171 #[.int .i64 l,.pointer (some ⟨B,0,none⟩)] w fun e w'=>e=.returned (.bool (!(eq b l)))∧Ext w w':=by
 have hB:=h
 obtain ⟨v1,v2,v4,v5,rfl,r1,r2,hN,hS,hO,hI⟩:=h
 have p0:=hbx 0 _ rfl
 have p1:=hbx 1 _ rfl
 have p2:=hbx 2 _ rfl
 have p3:=hbx 3 _ rfl
 have p4:=hbx 4 _ rfl
 have p5:=hbx 5 _ rfl
 clear hbx
 go_enter Tryz.func171,Tryz.ntmps171
 go_wp2_with (go_at_call 172;refine (gr lo hi [.int .i64 b.roots,v1,v2,.int .i64 b.edges,v4,v5] b l _ hB he ho).mono ?_;rintro e y ⟨rfl,hb⟩)
 go_ret
 exact ⟨rfl,hb⟩
theorem lO (lo hi lo' hi' B B2:Nat) (v:Value) (sig:List Ctl) (cs:List Value) (b:Big) (p:Int) (w:World) (hV:vN lo' hi' w v sig) (h:gT lo hi w cs b) (hp:I64 p) (hr:inR b.roots 0 4=true) (hc:zH sig b b.nodes.length) (hbx:∀j u,cs[j]? = some u→w.cell? ⟨B,j,none⟩=some u) (hbs:w.cell? ⟨B2,0,none⟩=some v) :
 Calls Tryz.prog 173 #[.int .i64 p,.pointer (some ⟨B,0,none⟩),.pointer (some ⟨B2,0,none⟩)] w fun e w'=>e=.returned (.bool (!(di sig b p b.nodes.length)))∧Ext w w':=by
 have hB:=h
 have hV':=hV
 obtain ⟨a,k,rfl,m1,m2,m3,m4⟩:=hV
 obtain ⟨v1,v2,v4,v5,rfl,r1,r2,hN,hS,hO,hI⟩:=h
 obtain ⟨a1,k1,rfl,g1,g2,g3,g4⟩:=hN
 have p0:=hbx 0 _ rfl
 have p1:=hbx 1 _ rfl
 have p2:=hbx 2 _ rfl
 have p3:=hbx 3 _ rfl
 have p4:=hbx 4 _ rfl
 have p5:=hbx 5 _ rfl
 unfold maxLen at g2
 clear hbx g4 m4
 go_enter Tryz.func173,Tryz.ntmps173
 go_wp2_with (go_at_call 170;refine (cB lo' hi' lo hi _ sig [.int .i64 b.roots,.slice a1 b.nodes.length k1,v2,.int .i64 b.edges,v4,v5] b p _ _ hV' hB hp hr (by omega) hc).mono ?_;rintro e y ⟨rfl,hb⟩)
 go_ret
 exact ⟨rfl,hb⟩
theorem mf (lo hi B:Nat) (cs:List Value) (b:Big) (ds:List Value) (x:Wr) (w:World) (h:gT lo hi w cs b) (he:inR b.edges 0 8=true) (ho:b.outer.length≤1000) (hbx:∀j u,cs[j]? = some u→w.cell? ⟨B,j,none⟩=some u) (hx:WrP lo hi w ds x) :
 Calls Tryz.prog 175 #[.agg ds.toArray,.pointer (some ⟨B,0,none⟩)] w fun e w'=>e=.returned (.bool (!(eq b x.link)))∧Ext w w':=by
 have hB:=h
 obtain ⟨v1,v2,v4,v5,rfl,r1,r2,hN,hS,hO,hI⟩:=h
 obtain ⟨rfl,e1,e2⟩:=hx
 obtain ⟨W0,hW0,hbx0,hx0,hz⟩:=dX w [.string x.name,.int .i64 x.link] 153
 have p0:=hx0.keep (hbx 0 _ rfl)
 have p1:=hx0.keep (hbx 1 _ rfl)
 have p2:=hx0.keep (hbx 2 _ rfl)
 have p3:=hx0.keep (hbx 3 _ rfl)
 have p4:=hx0.keep (hbx 4 _ rfl)
 have p5:=hx0.keep (hbx 5 _ rfl)
 have s1:=(hbx0 1 _ rfl).1
 replace hB:=gT.keeps _ _ _ _ _ _ (fb.ext hx0) hB
 clear hbx hbx0 hz
 go_enter Tryz.func175,Tryz.ntmps175
 go_wp2_with (go_at_call 172;refine (gr lo hi [.int .i64 b.roots,v1,v2,.int .i64 b.edges,v4,v5] b x.link _ hB he ho).mono ?_;rintro e y ⟨rfl,hb⟩)
 go_ret
 exact ⟨rfl,hx0.trans hb⟩
end Go.Proofs.YtacafmejcdgboaaGreatDoor
namespace Go.Proofs.YtacafmejcdgboaaGreatDoor
open Go.RowKit
set_option linter.unusedVariables false
set_option linter.unusedSimpArgs false
def fR (sig:List Ctl) (b:Big) (i:Nat):Bool:=match b.nodes[i]? with
 | none=>true
 | some n=>inR n.control 0 ((sig.length:Int) - 1) && (di sig b n.parent i && (decide ((n.links.length:Int)=(rJ sig n.control).ports) && n.links.all (eq b)))
def jf (sig:List Ctl) (b:Big):Bool:=kV sig && (inR b.roots 0 4 && (decide (b.nodes.length≤8) && (decide (b.sites.length≤4) && (inR b.edges 0 8 && (dj b.outer && dj (b.inner.map Wr.name))))))
def gx (sig:List Ctl) (b:Big) (p:Int):Bool:=di sig b p b.nodes.length
def gG (b:Big) (x:Wr):Bool:=eq b x.link
def aF (sig:List Ctl) (b:Big):Bool:=jf sig b && ((List.range b.nodes.length).all (fR sig b) && (b.sites.all (gx sig b) && b.inner.all (gG b)))
theorem mc (sig:List Ctl) (b:Big) (i:Nat) (h:i<b.nodes.length):fR sig b i=(inR (b.nodes[i]).control 0 ((sig.length:Int) - 1) && (di sig b (b.nodes[i]).parent i && (decide (((b.nodes[i]).links.length:Int)=(rJ sig (b.nodes[i]).control).ports) && !((b.nodes[i]).links.any (fun l=>!(eq b l)))))):=by
 unfold fR;rw [List.getElem?_eq_getElem h,iK,Bool.not_not]
theorem nM {sig:List Ctl} {b:Big} {n:Nat} (h:(List.range n).all (fR sig b)=true):zH sig b n:=by
 intro i hi hn
 have:=List.all_eq_true.1 h i (List.mem_range.2 (by omega))
 rw [mc sig b i hi] at this
 have:=bK (Bool.and_eq_true_iff.1 this).1
 omega
theorem fV {l:List ByteArray} (h:dj l=true):l.length≤16:=by
 unfold dj at h
 have:=(Bool.and_eq_true_iff.1 h).2
 simp at this;omega
theorem eU {sig:List Ctl} {b:Big} (h:jf sig b=true):kV sig=true∧inR b.roots 0 4=true∧b.nodes.length≤8∧b.sites.length≤4∧inR b.edges 0 8=true∧dj b.outer=true∧dj (b.inner.map Wr.name)=true:=by
 unfold jf at h
 simp only [Bool.and_eq_true,decide_eq_true_eq] at h
 obtain ⟨a,b,c,d,e,f,g⟩:=h
 exact ⟨a,b,c,d,e,f,g⟩
theorem ee {sig:List Ctl} {b:Big} (h:aF sig b=true):jf sig b=true∧(List.range b.nodes.length).all (fR sig b)=true∧b.sites.all (gx sig b)=true∧b.inner.all (gG b)=true:=by
 unfold aF at h
 simp only [Bool.and_eq_true] at h
 exact h
theorem dy {sig:List Ctl} {b:Big} (h:jf sig b=false):aF sig b=false:=by unfold aF;rw [h];rfl
theorem pd {sig:List Ctl} {b:Big} (i:Nat) (hi:i<b.nodes.length) (h:fR sig b i=false):aF sig b=false:=by unfold aF;rw [br _ _ i hi h];simp
theorem pm {x y:Bool} (h:x = !y):y = !x:=by cases x <;> cases y <;> simp_all
theorem Cu (sig:List Ctl) (b:Big):b.sites.any (fun p=>!(di sig b p b.nodes.length)) = !(b.sites.all (gx sig b)):=iK (gx sig b) b.sites
theorem CZ (b:Big):b.inner.any (fun x=>!(eq b x.link)) = !(b.inner.all (gG b)):=iK (gG b) b.inner
end Go.Proofs.YtacafmejcdgboaaGreatDoor
namespace Go.Proofs.YtacafmejcdgboaaGreatDoor
open Go.RowKit
set_option linter.unusedVariables false
set_option linter.unusedSimpArgs false
theorem qM {n:Nat} (h:n≤100000000):I64 (n:Int):=by unfold I64;omega
attribute [local irreducible] inR dp cQ
set_option maxRecDepth 100000 in
set_option maxHeartbeats 1600000 in
theorem rc (lo hi:Nat) (cs:List Value) (b:Big) (p:Int) (w:World) (h:gT lo hi w cs b) (hlen:b.nodes.length≤1048576) :
 Calls Tryz.prog 202 #[.agg cs.toArray,.int .i64 p] w fun e w'=>∃v,e=.returned v∧SlV 1 fg w.heap.size w'.heap.size w' v (dC b p)∧Ext w w':=by
 obtain ⟨v1,v2,v4,v5,rfl,r1,r2,hN,hS,hO,hI⟩:=h
 obtain ⟨aan,kn,rfl,n1,n2,n3,n4⟩:=hN
 unfold maxLen at n2
 obtain ⟨W0,hW0,hbx,hx0,hz⟩:=dX w [.int .i64 b.roots,.slice aan b.nodes.length kn,v2,.int .i64 b.edges,v4,v5] 46
 have pn:=(hbx 1 _ rfl).1
 have hzz:w.heap.size<W0.heap.size:=by omega
 clear hz hbx
 obtain ⟨i0,hi0,hz0,hz1,hz2⟩:=info_parts tN
 have hrow0:kB 1 fg 3 W0.heap.size (W0.alloc (.cells #[] 3)) (.slice (some ⟨W0.heap.size,0,none⟩) 0 0) []:=kB.made (Nat.le_refl _)
 go_enter Tryz.func202,Tryz.ntmps202
 go_wp2
 go_loopw [5,6] (fun v c wr=>∃i:Nat,c=.int .i64 i∧i≤b.nodes.length∧kB 1 fg 3 W0.heap.size wr v (idxOf (rF b p) i)∧Ext W0 wr) (fun _ c _=>b.nodes.length - (intOf c).toNat)
 case atStart=>exact ⟨0,rfl,Nat.zero_le _,hrow0,xw⟩
 case round=>
  obtain ⟨i,rfl,hi',hrow,hx⟩:=hrel
  replace pn:=hx.keep pn
  have hX:Ext w wr:=xw
  by_cases hlt:i<b.nodes.length
  ·have HF:=Lib.hid (Fx b p i hlt)
   rcases n4 with n4|⟨bn,on,rfl,nb1,nb2,n4⟩
   ·rw [n4] at hlt;simp at hlt
   obtain ⟨cs,hl,⟨nv,rfl,e1,e2,e3⟩,hc⟩:=n4 i hlt
   have q0:=hX.keep (hc 0 _ rfl)
   have q1:=hX.keep (hc 1 _ rfl)
   rw [Nat.add_zero] at q0
   clear hc n4
   have hsz:=Below.size hx
   have hL:=fG (rF b p) i
   by_cases hp:(b.nodes[i]).parent=p
   ·have ep:((b.nodes[i]).parent == p)=true:=beq_iff_eq.2 hp
    have HT:=Lib.hid (dg (f:=rF b p) (n:=i) (by rw [HF.out];simpa using hp))
    clear hp
    go_wp2_with (at_builtin;refine fJ fg.keeps rfl (.tmp 23) (.tmp 25) 25 rfl (W0.heap.size) 3 i0 _ 8 Tryz.underlying25 hi0 hz0 hz1 hz2 rfl (by decide) _ _ (by rfl) (hrow.ext fg.keeps xw) ⟨wr.heap.size,0,none⟩ 1 [.int .i64 i] rfl rfl (nQ (by simp)) (by simp [Value.oneCell']) (W0.heap.size) (W0.heap.size) (Nat.le_refl _) (by first|omega|(simp;omega)) (fun g hg=>.inr (hrow.block g hg).1) ((i:Int)) ⟨rfl,qM (by omega)⟩ (by first|omega|(simp;omega)) (by decide) (by first|omega|(simp;omega)) ?_;intro v3 w3 row3 ext3 gro3 own3)
    have hx3:=ext3 W0 xw (Nat.le_refl _)
    go_roundw
    case rel=>exact ⟨i+1,rfl,by omega,by rw [HT.out];exact row3,xw⟩
    ·simp only [intOf];omega
   ·have ep:((b.nodes[i]).parent == p)=false:=beq_eq_false_iff_ne.2 hp
    have HT:=Lib.hid (eJ (f:=rF b p) (n:=i) (by rw [HF.out];simpa using hp))
    clear hp
    go_wp2
    go_roundw
    case rel=>exact ⟨i+1,rfl,by omega,by rw [HT.out];exact hrow,xw⟩
    ·simp only [intOf];omega
  ·have e:i=b.nodes.length:=by omega
   subst e
   go_wp2
   go_ret
   exact ⟨_,rfl,hrow.toSlV fg.widens (by omega),hX⟩
set_option maxRecDepth 100000 in
set_option maxHeartbeats 1600000 in
theorem pD (lo hi:Nat) (cs:List Value) (b:Big) (p:Int) (w:World) (h:gT lo hi w cs b) (hlen:b.sites.length≤1048576) :
 Calls Tryz.prog 203 #[.agg cs.toArray,.int .i64 p] w fun e w'=>∃v,e=.returned v∧SlV 1 fg w.heap.size w'.heap.size w' v (cD b p)∧Ext w w':=by
 obtain ⟨v1,v2,v4,v5,rfl,r1,r2,hN,hS,hO,hI⟩:=h
 obtain ⟨aas,ks,rfl,s1,s2,s3,s4⟩:=hS
 unfold maxLen at s2
 obtain ⟨W0,hW0,hbx,hx0,hz⟩:=dX w [.int .i64 b.roots,v1,.slice aas b.sites.length ks,.int .i64 b.edges,v4,v5] 46
 have ps:=(hbx 2 _ rfl).1
 have hzz:w.heap.size<W0.heap.size:=by omega
 clear hz hbx
 obtain ⟨i0,hi0,hz0,hz1,hz2⟩:=info_parts tN
 have hrow0:kB 1 fg 3 W0.heap.size (W0.alloc (.cells #[] 3)) (.slice (some ⟨W0.heap.size,0,none⟩) 0 0) []:=kB.made (Nat.le_refl _)
 go_enter Tryz.func203,Tryz.ntmps203
 go_wp2
 go_loopw [5,6] (fun v c wr=>∃i:Nat,c=.int .i64 i∧i≤b.sites.length∧kB 1 fg 3 W0.heap.size wr v (idxOf (jA b p) i)∧Ext W0 wr) (fun _ c _=>b.sites.length - (intOf c).toNat)
 case atStart=>exact ⟨0,rfl,Nat.zero_le _,hrow0,xw⟩
 case round=>
  obtain ⟨i,rfl,hi',hrow,hx⟩:=hrel
  replace ps:=hx.keep ps
  have hX:Ext w wr:=xw
  by_cases hlt:i<b.sites.length
  ·have HF:=Lib.hid (Ck b p i hlt)
   rcases s4 with s4|⟨bs,os,rfl,sb1,sb2,s4⟩
   ·rw [s4] at hlt;simp at hlt
   obtain ⟨cs,hl,⟨rfl,e1⟩,hc⟩:=s4 i hlt
   have q0:=hX.keep (hc 0 _ rfl)
   rw [Nat.mul_one,Nat.add_zero] at q0
   clear hc s4
   have hsz:=Below.size hx
   have hL:=fG (jA b p) i
   by_cases hp:b.sites[i]=p
   ·have ep:(b.sites[i] == p)=true:=beq_iff_eq.2 hp
    have HT:=Lib.hid (dg (f:=jA b p) (n:=i) (by rw [HF.out];simpa using hp))
    clear hp
    go_wp2_with (at_builtin;refine fJ fg.keeps rfl (.tmp 22) (.tmp 24) 25 rfl (W0.heap.size) 3 i0 _ 8 Tryz.underlying25 hi0 hz0 hz1 hz2 rfl (by decide) _ _ (by rfl) (hrow.ext fg.keeps xw) ⟨wr.heap.size,0,none⟩ 1 [.int .i64 i] rfl rfl (nQ (by simp)) (by simp [Value.oneCell']) (W0.heap.size) (W0.heap.size) (Nat.le_refl _) (by first|omega|(simp;omega)) (fun g hg=>.inr (hrow.block g hg).1) ((i:Int)) ⟨rfl,qM (by omega)⟩ (by first|omega|(simp;omega)) (by decide) (by first|omega|(simp;omega)) ?_;intro v3 w3 row3 ext3 gro3 own3)
    have hx3:=ext3 W0 xw (Nat.le_refl _)
    go_roundw
    case rel=>exact ⟨i+1,rfl,by omega,by rw [HT.out];exact row3,xw⟩
    ·simp only [intOf];omega
   ·have ep:(b.sites[i] == p)=false:=beq_eq_false_iff_ne.2 hp
    have HT:=Lib.hid (eJ (f:=jA b p) (n:=i) (by rw [HF.out];simpa using hp))
    clear hp
    go_wp2
    go_roundw
    case rel=>exact ⟨i+1,rfl,by omega,by rw [HT.out];exact hrow,xw⟩
    ·simp only [intOf];omega
  ·have e:i=b.sites.length:=by omega
   subst e
   go_wp2
   go_ret
   exact ⟨_,rfl,hrow.toSlV fg.widens (by omega),hX⟩
end Go.Proofs.YtacafmejcdgboaaGreatDoor
namespace Go.Proofs.YtacafmejcdgboaaGreatDoor
open Go.RowKit
set_option linter.unusedVariables false
set_option linter.unusedSimpArgs false
theorem Hb:∃i,Tryz.prog.info? 261=some i∧i.zero=some (.agg #[.int .i64 0,.int .i64 0])∧i.size=2∧i.bytes=16:=info_parts Cr
theorem pb (b:Big) (l:Int):∀(n:Nat),n≤b.nodes.length→(∀i (h:i<b.nodes.length),(b.nodes[i]).links.length≤1000)→(dQ b l n).length≤n * 1000:=by
 intro n
 induction n with
 | zero=>intro _ _;simp [dQ]
 | succ n ih=>
  intro hn hl
  rw [gu b l n (by omega),List.length_append]
  have h1:=ih (by omega) hl
  have h2:=oY (b.nodes[n]).links l n (b.nodes[n]).links.length
  have h3:=hl n (by omega)
  omega
attribute [local irreducible] inR dp cQ
set_option maxRecDepth 100000 in
set_option maxHeartbeats 3200000 in
theorem pG (lo hi:Nat) (cs:List Value) (b:Big) (l:Int) (w:World) (h:gT lo hi w cs b) (hlen:b.nodes.length≤1000) (hlinks:∀i (h:i<b.nodes.length),(b.nodes[i]).links.length≤1000) :
 Calls Tryz.prog 253 #[.agg cs.toArray,.int .i64 l] w fun e w'=>∃v,e=.returned v∧SlV 2 iZ w.heap.size w'.heap.size w' v (aK b l)∧Ext w w':=by
 obtain ⟨v1,v2,v4,v5,rfl,r1,r2,hN,hS,hO,hI⟩:=h
 obtain ⟨aan,kn,rfl,n1,n2,n3,n4⟩:=hN
 unfold maxLen at n2
 obtain ⟨W0,hW0,hbx,hx0,hz⟩:=dX w [.int .i64 b.roots,.slice aan b.nodes.length kn,v2,.int .i64 b.edges,v4,v5] 46
 have pn:=(hbx 1 _ rfl).1
 have hzz:w.heap.size<W0.heap.size:=by omega
 clear hz hbx
 obtain ⟨i0,hi0,hz0,hz1,hz2⟩:=Hb
 have hrow0:kB 2 iZ 261 W0.heap.size (W0.alloc (.cells #[] 261)) (.slice (some ⟨W0.heap.size,0,none⟩) 0 0) []:=kB.made (Nat.le_refl _)
 go_enter Tryz.func253,Tryz.ntmps253
 go_wp2
 go_loopw [5,6,7] (fun v c _ wr=>∃i:Nat,c=.int .i64 i∧i≤b.nodes.length∧kB 2 iZ 261 W0.heap.size wr v (dQ b l i)∧Ext W0 wr) (fun _ c _ _=>b.nodes.length - (intOf c).toNat)
 case atStart=>exact ⟨0,rfl,Nat.zero_le _,hrow0,xw⟩
 case round=>
  obtain ⟨i,rfl,hi',hrow,hx⟩:=hrel
  have pn1:=hx.keep pn
  have hX:Ext w wr:=hx0.trans hx
  by_cases hlt:i<b.nodes.length
  ·have HPS:=Lib.hid (gu b l i hlt)
   have hll:=hlinks i hlt
   have hpl:=pb b l i hi' hlinks
   rcases n4 with n4|⟨bn,on,rfl,nb1,nb2,n4⟩
   ·rw [n4] at hlt;simp at hlt
   obtain ⟨cs,hl,hnp,hc⟩:=n4 i hlt
   generalize b.nodes[i]=nd at hnp HPS hll
   obtain ⟨nc,np,nl⟩:=nd
   obtain ⟨nv,rfl,e1,e2,e3⟩:=hnp
   have q2w:=hc 2 _ rfl
   have q2:=hX.keep q2w
   obtain ⟨la,lk,rfl,y1,y2,y3,y4⟩:=e3
   dsimp only at *
   unfold maxLen at y2
   clear hc n4
   go_wp2
   go_loopw [5,7] (fun v c wi=>∃k:Nat,c=.int .i64 k∧k≤nl.length∧kB 2 iZ 261 W0.heap.size wi v (dQ b l i++cK nl l i k)∧Ext W0 wi) (fun _ c _=>nl.length - (intOf c).toNat)
   case atStart=>exact ⟨0,rfl,Nat.zero_le _,by simpa [cK] using hrow,hx⟩
   case round=>
    obtain ⟨k,rfl,hk',hrowi,hxi⟩:=hrel
    have pn2:=hxi.keep pn
    have hXi:Ext w wr:=hx0.trans hxi
    have q3:=hXi.keep q2w
    by_cases hkl:k<nl.length
    ·have HY:=Lib.hid (lr (l:=l) (i:=i) hkl)
     have HN:=Lib.hid (mO (l:=l) (i:=i) hkl)
     rcases y4 with y4|⟨b3,o3,rfl,yb1,yb2,y4⟩
     ·rw [y4] at hkl;simp at hkl
     obtain ⟨es,el,⟨rfl,f1⟩,hes⟩:=y4 k hkl
     have t0:=hXi.keep (hes 0 _ rfl)
     rw [Nat.mul_one,Nat.add_zero] at t0
     clear hes y4
     have hsz:=Below.size hxi
     have hL:=oY nl l i k
     have hLL:(dQ b l i++cK nl l i k).length=(dQ b l i).length+(cK nl l i k).length:=List.length_append
     have hL2:(dQ b l i++cK nl l i k).length≤2000000:=by omega
     clear hLL
     by_cases hp:nl[k]=l
     ·have ep:(nl[k] == l)=true:=beq_iff_eq.2 hp
      have HT:=Lib.hid (HY.out hp)
      clear hp
      go_wp2_with (at_builtin;refine fJ iZ.keeps rfl (.tmp 38) (.tmp 42) 243 rfl (W0.heap.size) 261 i0 _ 16 Tryz.underlying243 hi0 hz0 hz1 hz2 rfl (by decide) _ _ (by rfl) (hrowi.ext iZ.keeps xw) ⟨wr.heap.size,0,none⟩ 1 [.int .i64 i,.int .i64 k] rfl rfl (nQ (by simp)) (by simp [Value.oneCell']) (W0.heap.size) (W0.heap.size) (Nat.le_refl _) (by first|omega|(simp;omega)) (fun g hg=>.inr (hrowi.block g hg).1) (((i:Int),(k:Int))) ⟨rfl,qM (by omega),qM (by omega)⟩ (by first|omega|(simp;omega)) (by decide) (by first|omega|(simp;omega)) ?_;intro v3 w3 row3 ext3 gro3 own3)
      have hx3:=ext3 W0 xw (Nat.le_refl _)
      go_roundw
      case rel=>exact ⟨k+1,rfl,by omega,by rw [HT.out,← List.append_assoc];exact row3,xw⟩
      ·simp only [intOf];omega
     ·have ep:(nl[k] == l)=false:=beq_eq_false_iff_ne.2 hp
      have HT:=Lib.hid (HN.out hp)
      clear hp
      go_wp2
      go_roundw
      case rel=>exact ⟨k+1,rfl,by omega,by rw [HT.out];exact hrowi,xw⟩
      ·simp only [intOf];omega
    ·have e:k=nl.length:=by omega
     subst e
     go_wp2
     go_roundw
     case rel=>exact ⟨i+1,rfl,by omega,by rw [HPS.out];exact hrowi,xw⟩
     ·simp only [intOf];omega
  ·have e:i=b.nodes.length:=by omega
   subst e
   go_wp2
   go_ret
   exact ⟨_,rfl,hrow.toSlV iZ.widens (by omega),hX⟩
end Go.Proofs.YtacafmejcdgboaaGreatDoor
namespace Go.Proofs.YtacafmejcdgboaaGreatDoor
open Go.RowKit
set_option linter.unusedVariables false
set_option linter.unusedSimpArgs false
def i2 (b:Big) (r:Nat):Bool:=!(decide ((dC b (-1 - r)).length=0)) && decide ((cD b (-1 - r)).length=0)
def dS (b:Big) (i:Nat):Bool:=decide ((cD b i).length≤1)
def dG (b:Big) (l:Nat):Bool:=!(pE b l)
def fX (b:Big) (n:Nat):Bool:=if -b.roots+n<0 then i2 b (-1 - (-b.roots+n)).toNat else dS b (-b.roots+n).toNat
def ap (b:Big):Nat:=(b.edges+b.outer.length).toNat
def bF (b:Big):Bool:=(decide (b.inner.length=0) && !(decide (b.roots=0))) && ((List.range b.roots.toNat).all (i2 b) && ((List.range b.nodes.length).all (dS b) && (List.range (ap b)).all (dG b)))
structure vz (b:Big):Prop where
 roots:inR b.roots 0 4=true
 edges:inR b.edges 0 8=true
 nodes:b.nodes.length≤1000
 sites:b.sites.length≤1000
 outer:b.outer.length≤1000
 inner:b.inner.length≤1048576
 links:∀i (h:i<b.nodes.length),(b.nodes[i]).links.length≤1000
theorem aG (f:Nat→Bool) (n:Nat):(List.range n).all f=true↔∀i,i<n→f i=true:=by
 rw [List.all_eq_true];constructor
 ·intro h i hi;exact h i (List.mem_range.2 hi)
 ·intro h i hi;exact h i (List.mem_range.1 hi)
theorem uo (b:Big) (h:0≤b.roots):(List.range (b.roots.toNat+b.nodes.length)).all (fX b)=((List.range b.roots.toNat).all (i2 b) && (List.range b.nodes.length).all (dS b)):=by
 rw [Bool.eq_iff_iff,Bool.and_eq_true,aG,aG,aG]
 constructor
 ·intro hh
  refine ⟨fun r hr=>?_,fun i hi=>?_⟩
  ·have:=hh (b.roots.toNat - 1 - r) (by omega)
   unfold fX at this
   rw [if_pos (by omega)] at this
   have e:(-1 - (-b.roots+((b.roots.toNat - 1 - r:Nat):Int))).toNat=r:=by omega
   rwa [e] at this
  ·have:=hh (b.roots.toNat+i) (by omega)
   unfold fX at this
   rw [if_neg (by omega)] at this
   have e:(-b.roots+((b.roots.toNat+i:Nat):Int)).toNat=i:=by omega
   rwa [e] at this
 ·rintro ⟨h1,h2⟩ n hn
  unfold fX
  split
  ·exact h1 _ (by omega)
  ·exact h2 _ (by omega)
theorem ut {b:Big} (n:Nat) (hn:n<b.roots.toNat) (hp:i2 b n=false):bF b=false:=by
 unfold bF;rw [br _ _ n hn hp];simp
theorem uK {b:Big} (n:Nat) (hn:n<b.nodes.length) (hp:dS b n=false):bF b=false:=by
 unfold bF;rw [br _ _ n hn hp];simp
theorem ph {b:Big} (h:¬b.inner.length=0∨b.roots=0):bF b=false:=by
 unfold bF
 rcases h with h|h
 ·rw [decide_eq_false h];rfl
 ·rw [decide_eq_true h];simp
theorem yz {b:Big} (h1:b.inner.length=0) (h2:¬b.roots=0) (h3:(List.range b.roots.toNat).all (i2 b)=true) (h4:(List.range b.nodes.length).all (dS b)=true) (h5:(List.range (ap b)).all (dG b)=true):bF b=true:=by
 unfold bF;rw [decide_eq_true h1,decide_eq_false h2,h3,h4,h5];rfl
theorem sC {sig:List Ctl} (h:kV sig=true) (k:Int) (h0:0≤k) (h1:k<sig.length):(rJ sig k).ports≤3:=by
 obtain ⟨m,rfl⟩:=Int.eq_ofNat_of_zero_le h0
 rw [jb sig m (by omega)]
 unfold kV at h
 have h2:=(aG _ _).1 (Bool.and_eq_true_iff.1 h).2 m (by omega)
 rw [rg sig m (by omega)] at h2
 have h3:=(Bool.and_eq_true_iff.1 h2).1
 unfold H7 at h3
 simp only [Bool.and_eq_true] at h3
 have:=bK h3.2.1
 omega
theorem bu {sig:List Ctl} {b:Big} (h:aF sig b=true):vz b:=by
 obtain ⟨h1,h2,_,_⟩:=ee h
 obtain ⟨a,r,c,d,e,f,g⟩:=eU h1
 refine ⟨r,e,by omega,by omega,by have:=fV f;omega,by have:=fV g;simp at this;omega,fun i hi=>?_⟩
 have h3:=(aG _ _).1 h2 i hi
 rw [mc sig b i hi] at h3
 simp only [Bool.and_eq_true,decide_eq_true_eq] at h3
 have hc:=bK h3.1
 have:=sC a _ hc.1 (by omega)
 omega
end Go.Proofs.YtacafmejcdgboaaGreatDoor
namespace Go.Proofs.YtacafmejcdgboaaGreatDoor
open Go.RowKit
set_option linter.unusedVariables false
set_option linter.unusedSimpArgs false
attribute [local irreducible] inR dp cQ dC cD aK nF pE i2 dS dG fX
end Go.Proofs.YtacafmejcdgboaaGreatDoor
namespace Go.Proofs.YtacafmejcdgboaaGreatDoor
open Go.RowKit
set_option linter.unusedVariables false
set_option linter.unusedSimpArgs false
def dP (l:List Int) (n:Int):Bool:=l.any (fun x=>x == n)
attribute [local irreducible] inR
end Go.Proofs.YtacafmejcdgboaaGreatDoor
namespace Go.Proofs.YtacafmejcdgboaaGreatDoor
open Go.RowKit
set_option linter.unusedVariables false
set_option linter.unusedSimpArgs false
theorem eW {sig:List Ctl} {b:Big} (h:aF sig b=true) (i:Nat) (hi:i<b.nodes.length):0≤(b.nodes[i]).control∧(b.nodes[i]).control<sig.length∧di sig b (b.nodes[i]).parent i=true∧((b.nodes[i]).links.length:Int)=(rJ sig (b.nodes[i]).control).ports∧∀l∈(b.nodes[i]).links,eq b l=true:=by
 have h3:=(aG _ _).1 (ee h).2.1 i hi
 rw [mc sig b i hi] at h3
 simp only [Bool.and_eq_true,decide_eq_true_eq] at h3
 have hc:=bK h3.1
 refine ⟨hc.1,by omega,h3.2.1,h3.2.2.1,fun l hl=>?_⟩
 have h4:=h3.2.2.2
 simp only [Bool.not_eq_true',List.any_eq_false] at h4
 simpa using h4 l hl
theorem iI {sig:List Ctl} {b:Big} (h:aF sig b=true) (i:Nat) (hi:i<b.nodes.length) : -b.roots≤(b.nodes[i]).parent∧(b.nodes[i]).parent<i:=by
 obtain ⟨_,_,hu,_⟩:=eW h i hi
 have hr:inR b.roots 0 4=true:=(eU (ee h).1).2.1
 have:=bK hr
 unfold di at hu
 split at hu
 ·simp only [decide_eq_true_eq] at hu;omega
 ·simp only [Bool.and_eq_true,decide_eq_true_eq] at hu;omega
def kZ (b:Big) (f:Int→Bool):Nat→Int→Bool
 | 0,_=>false
 | n+1,p=>if p<0 then false else f p || kZ b f n (dR b p).parent
def kb (b:Big) (f:Int→Bool) (p:Int):Bool:=kZ b f (p.toNat+1) p
theorem ya {sig:List Ctl} {b:Big} (h:aF sig b=true) (f:Int→Bool):∀(m n:Nat) (p:Int),p<b.nodes.length→p.toNat<m→p.toNat<n→kZ b f m p=kZ b f n p:=by
 intro m
 induction m with
 | zero=>intro n p _ hf;omega
 | succ m ih=>
  intro n p hp hf hg
  cases n with
  | zero=>omega
  | succ n=>
   unfold kZ
   by_cases hn:p<0
   ·rw [if_pos hn,if_pos hn]
   ·rw [if_neg hn,if_neg hn]
    obtain ⟨k,rfl⟩:=Int.eq_ofNat_of_zero_le (show 0≤p by omega)
    have hl:k<b.nodes.length:=by omega
    have:=iI h k hl
    rw [aD b k hl]
    congr 1
    by_cases hq:(b.nodes[k]).parent<0
    ·cases m <;> cases n <;> simp [kZ,hq]
    ·exact ih n _ (by omega) (by omega) (by omega)
theorem eh (b:Big) (f:Int→Bool) {p:Int} (h:p<0):kb b f p=false:=by
 unfold kb kZ;rw [if_pos h]
theorem eQ {sig:List Ctl} {b:Big} (h:aF sig b=true) (f:Int→Bool) (k:Nat) (hk:k<b.nodes.length):kb b f (k:Int)=(f k || kb b f (b.nodes[k]).parent):=by
 have hp:=iI h k hk
 have e:kb b f (k:Int)=(f k || kZ b f k (b.nodes[k]).parent):=by
  unfold kb
  rw [show ((k:Int).toNat+1)=k+1 by omega,kZ,if_neg (by omega),aD b k hk]
 rw [e]
 congr 1
 by_cases hq:(b.nodes[k]).parent<0
 ·rw [eh b f hq]
  cases k with
  | zero=>rfl
  | succ k=>rw [kZ,if_pos hq]
 ·exact ya h f _ _ _ (by omega) (by omega) (by omega)
theorem so {sig:List Ctl} {b:Big} (h:aF sig b=true) {f g:Int→Bool} (hfg:∀k:Nat,k<b.nodes.length→f k=g k):∀(n:Nat) (p:Int),p<n→p<b.nodes.length→kb b f p=kb b g p:=by
 intro n
 induction n with
 | zero=>intro p hp _;rw [eh b f (by omega),eh b g (by omega)]
 | succ n ih=>
  intro p hp hl
  by_cases hq:p<0
  ·rw [eh b f hq,eh b g hq]
  ·obtain ⟨k,rfl⟩:=Int.eq_ofNat_of_zero_le (show 0≤p by omega)
   have hk:k<b.nodes.length:=by omega
   have:=iI h k hk
   rw [eQ h f k hk,eQ h g k hk,hfg k hk,ih _ (by omega) (by omega)]
def gV (b:Big) (ns:List Int) (p:Int):Bool:=kb b (dP ns) p
def rK (sig:List Ctl) (b:Big) (p:Int):Bool:=decide ((rJ sig (dR b p).control).kind=1)
def k8 (sig:List Ctl) (b:Big) (p:Int):Bool:=kb b (rK sig b) p
def kj (sig:List Ctl) (b:Big) (rs:List Int):Bool:=rs.all fun p=>!k8 sig b p
structure Mat where
 nodes:List Int
 roots:List Int
def atI (l:List Int) (i:Int):Int:=l.getD i.toNat 0
def GJ (r:Big) (m:Mat) (i:Nat):Int:=if 0≤(dR r i).parent then atI m.nodes (dR r i).parent else atI m.roots (-1 - (dR r i).parent)
def tZ (a:Big) (ns:List Int) (i:Nat):Bool:=inR (atI ns i) 0 (a.nodes.length - 1) && !dP (ns.take i) (atI ns i)
def uu (r a:Big) (ns:List Int) (i:Nat):Bool:=decide ((dR a (atI ns i)).control=(dR r i).control)
def pu (r a:Big) (m:Mat) (i:Nat):Bool:=decide ((dR a (atI m.nodes i)).parent=GJ r m i)
def lu (r a:Big) (m:Mat) (i:Nat):Bool:=!(decide ((cD r i).length=0)) || (dC a (atI m.nodes i)).all (dP m.nodes)
def jP (a:Big) (ns:List Int) (p:Int):Bool:=inR p (-a.roots) (a.nodes.length - 1) && !gV a ns p
def ik (a:Big) (ns:List Int) (q:Int × Int):Int:=atI (dR a (atI ns q.1)).links q.2
def mE (r a:Big) (ns:List Int) (l:Int):Int:=match aK r l with | []=>-1|q :: _=>ik a ns q
def ir (r a:Big) (ns:List Int) (l:Nat):Bool:=(aK r l).all (fun q=>decide (ik a ns q=mE r a ns l)) && (!(decide ((l:Int)<r.edges)) || (decide (mE r a ns l<a.edges) && decide ((aK a (mE r a ns l)).length=(aK r l).length)))
def gw (r a:Big) (ns:List Int):Bool:=(List.range (ap r)).all (ir r a ns)
def aM (r a:Big) (ns:List Int):List Int:=(List.range (ap r)).map (fun (l:Nat)=>mE r a ns l)
def rH (r a:Big) (ns:List Int):Bool:=decide (ns.length=r.nodes.length) && ((List.range ns.length).all (tZ a ns) && (List.range ns.length).all (uu r a ns))
def fP (r a:Big) (m:Mat):Bool:=m.roots.all (jP a m.nodes) && decide ((m.roots.length:Int)=r.roots)
def dD (r a:Big) (m:Mat):Bool:=(rH r a m.nodes && fP r a m) && ((List.range m.nodes.length).all (pu r a m) && ((List.range m.nodes.length).all (lu r a m) && gw r a m.nodes))
def aW (r:Big) (l:Int) (k i:Nat):List (Int × Int):=dQ r l k++cK (dR r k).links l k i
theorem nf (r:Big) (l:Int):aW r l 0 0 = []:=rfl
theorem jJ (r:Big) (l:Int) (k:Nat) (hk:k<r.nodes.length):aW r l (k+1) 0=aW r l k (r.nodes[k]).links.length:=by
 unfold aW
 rw [gu r l k hk,aD r k hk]
 simp [cK]
theorem i9 (r:Big) (l:Int) (k i:Nat) (hk:k<r.nodes.length) (hi:i<(r.nodes[k]).links.length) (h:(r.nodes[k]).links[i]=l):aW r l k (i+1)=aW r l k i++[((k:Int),(i:Int))]:=by
 unfold aW
 rw [aD r k hk,lr hi h,List.append_assoc]
theorem pR (r:Big) (l:Int) (k i:Nat) (hk:k<r.nodes.length) (hi:i<(r.nodes[k]).links.length) (h:¬(r.nodes[k]).links[i]=l):aW r l k (i+1)=aW r l k i:=by
 unfold aW
 rw [aD r k hk,mO hi h]
theorem jg (r:Big) (l:Int):aW r l r.nodes.length 0=aK r l:=by unfold aW aK;simp [cK]
theorem jm (r:Big) (l:Int) (k i:Nat) (hk:k<r.nodes.length) (hi:i≤(r.nodes[k]).links.length):∃t,aK r l=aW r l k i++t:=by
 have step:∀n j,j+n=(r.nodes[k]).links.length→∃t,cK (r.nodes[k]).links l k (r.nodes[k]).links.length=cK (r.nodes[k]).links l k j++t:=by
  intro n
  induction n with
  | zero=>intro j hj;exact ⟨[],by rw [← hj];simp⟩
  | succ n ih=>
   intro j hj
   obtain ⟨t,ht⟩:=ih (j+1) (by omega)
   by_cases h:(r.nodes[k]).links[j]'(by omega)=l
   ·rw [lr (by omega) h] at ht;exact ⟨_,by rw [ht,List.append_assoc]⟩
   ·rw [mO (by omega) h] at ht;exact ⟨t,ht⟩
 have all:∀n m,m+n=r.nodes.length→∃t,dQ r l r.nodes.length=dQ r l m++t:=by
  intro n
  induction n with
  | zero=>intro m hm;exact ⟨[],by rw [← hm];simp⟩
  | succ n ih=>
   intro m hm
   obtain ⟨t,ht⟩:=ih (m+1) (by omega)
   rw [gu r l m (by omega),List.append_assoc] at ht
   exact ⟨_,ht⟩
 obtain ⟨t1,h1⟩:=step _ i (by omega:i+((r.nodes[k]).links.length - i)=_)
 obtain ⟨t2,h2⟩:=all _ (k+1) (by omega:k+1+(r.nodes.length - (k+1))=_)
 rw [gu r l k hk,h1] at h2
 exact ⟨t1++t2,by unfold aK aW;rw [h2,aD r k hk];simp⟩
def jy (a:Big) (ns:List Int) (ps:List (Int × Int)):Int:=match ps with | []=>-1|q :: _=>ik a ns q
theorem BP (r a:Big) (ns:List Int) (l:Int):mE r a ns l=jy a ns (aK r l):=rfl
def iO (r a:Big) (ns:List Int) (k i:Nat):List Int:=(List.range (ap r)).map fun (l:Nat)=>jy a ns (aW r l k i)
def g6 (r a:Big) (ns:List Int) (k i:Nat):Prop:=∀l:Nat,l<ap r→∀q∈aW r l k i,ik a ns q=jy a ns (aW r l k i)
theorem zR (r a:Big) (ns:List Int) (k i:Nat):(iO r a ns k i).length=ap r:=by simp [iO]
theorem nK (r a:Big) (ns:List Int) (k i l:Nat) (h:l<(iO r a ns k i).length):(iO r a ns k i)[l]=jy a ns (aW r l k i):=by simp [iO]
theorem xE (r a:Big) (ns:List Int):iO r a ns 0 0=List.replicate (ap r) (-1):=by
 apply List.ext_getElem
 ·simp [iO]
 ·intro i h1 h2;rw [nK,nf,List.getElem_replicate];rfl
theorem yf (r a:Big) (ns:List Int) (k:Nat) (hk:k<r.nodes.length):iO r a ns (k+1) 0=iO r a ns k (r.nodes[k]).links.length:=by
 unfold iO;congr 1;funext l;rw [jJ r l k hk]
theorem yB (r a:Big) (ns:List Int):g6 r a ns 0 0:=fun l _ q hq=>by rw [nf] at hq;cases hq
theorem yd {r a:Big} {ns:List Int} {k:Nat} (hk:k<r.nodes.length) (h:g6 r a ns k (r.nodes[k]).links.length):g6 r a ns (k+1) 0:=fun l hl q hq=>by
 rw [jJ r l k hk] at hq ⊢;exact h l hl q hq
theorem Ba (r a:Big) (ns:List Int):iO r a ns r.nodes.length 0=aM r a ns:=by
 unfold iO aM;congr 1;funext l;rw [jg];rfl
theorem yw (a:Big) (ns:List Int) (ps:List (Int × Int)) (q:Int × Int):jy a ns (ps++[q])=if ps = [] then ik a ns q else jy a ns ps:=by cases ps <;> simp [jy]
theorem x9 {r a:Big} {ns:List Int} {k i l:Nat} (hk:k<r.nodes.length) (hi:i<(r.nodes[k]).links.length) (hl:(r.nodes[k]).links[i]=(l:Int)) (hll:l<ap r)
 (hag:g6 r a ns k i) (hno:jy a ns (aW r l k i)<0∨jy a ns (aW r l k i)=ik a ns ((k:Int),(i:Int))) (h0:∀q∈aW r l k i,0≤ik a ns q) :
 iO r a ns k (i+1)=(iO r a ns k i).set l (ik a ns ((k:Int),(i:Int)))∧g6 r a ns k (i+1):=by
 have hy:=i9 r l k i hk hi hl
 have hn:∀m:Nat,m≠l→aW r m k (i+1)=aW r m k i:=fun m hm=>pR r m k i hk hi (by rw [hl];omega)
 have hem:aW r l k i≠[]→jy a ns (aW r l k i)=ik a ns ((k:Int),(i:Int)):=fun hne=>by
  refine hno.resolve_left (fun h=>?_)
  cases hp:aW r l k i with
  | nil=>exact hne hp
  | cons q t=>
   have:=h0 q (by rw [hp];simp)
   rw [hp] at h
   unfold jy at h
   dsimp only at h
   omega
 have hh:jy a ns (aW r l k (i+1))=ik a ns ((k:Int),(i:Int)):=by
  rw [hy,yw]
  split
  ·rfl
  ·exact hem (by assumption)
 refine ⟨?_,fun m hm q hq=>?_⟩
 ·apply List.ext_getElem
  ·simp [iO]
  ·intro m h1 h2
   rw [nK,List.getElem_set]
   by_cases e:l=m
   ·subst e;rw [if_pos rfl,hh]
   ·rw [if_neg e,nK,hn m (fun h=>e h.symm)]
 ·by_cases e:m=l
  ·subst e
   rw [hh]
   rw [hy] at hq
   rcases List.mem_append.1 hq with hq|hq
   ·rw [hag m hm q hq];exact hem (fun h=>by rw [h] at hq;cases hq)
   ·rw [List.mem_singleton.1 hq]
  ·rw [hn m e] at hq ⊢;exact hag m hm q hq
theorem yp {r a:Big} {ns:List Int} {k i l:Nat} (hk:k<r.nodes.length) (hi:i<(r.nodes[k]).links.length) (hl:(r.nodes[k]).links[i]=(l:Int)) (h0:0≤jy a ns (aW r l k i)) (hne:¬jy a ns (aW r l k i)=ik a ns ((k:Int),(i:Int))):ir r a ns l=false:=by
 obtain ⟨t,ht⟩:=jm r l k (i+1) hk hi
 rw [i9 r l k i hk hi hl] at ht
 have hp:aW r l k i≠[]:=fun h=>by rw [h] at h0;simp [jy] at h0
 have hh:mE r a ns l=jy a ns (aW r l k i):=by
  rw [BP,ht]
  cases hq:aW r l k i with
  | nil=>exact absurd hq hp
  | cons q u=>rfl
 unfold ir
 rw [Bool.and_eq_false_iff]
 left
 rw [List.all_eq_false]
 refine ⟨((k:Int),(i:Int)),by rw [ht];simp,?_⟩
 rw [hh]
 simp only [decide_eq_true_eq]
 exact fun h=>hne h.symm
theorem kv {r a:Big} {ns:List Int} {l:Nat} (hl:l<ap r) (h:ir r a ns l=false):gw r a ns=false:=br _ _ l hl h
theorem oz {r a:Big} {ns:List Int} (h:g6 r a ns r.nodes.length 0) (l:Nat) (hl:l<ap r):(aK r l).all (fun q=>decide (ik a ns q=mE r a ns l))=true:=by
 rw [List.all_eq_true]
 intro q hq
 have:=h l hl q (by rw [jg];exact hq)
 rw [jg] at this
 exact decide_eq_true this
theorem bw {f:Nat→Bool} {n:Nat} {x:Int}:x∈idxOf f n↔∃i:Nat,i<n∧f i=true∧x=i:=by
 unfold idxOf
 simp only [List.mem_map,List.mem_filter,List.mem_range]
 constructor
 ·rintro ⟨i,⟨h1,h2⟩,h3⟩;exact ⟨i,h1,h2,h3.symm⟩
 ·rintro ⟨i,h1,h2,h3⟩;exact ⟨i,⟨h1,h2⟩,h3.symm⟩
theorem cM {l:List Int} {n:Int}:dP l n=true↔n∈l:=by
 unfold dP;rw [List.any_eq_true];constructor
 ·rintro ⟨x,h1,h2⟩;rw [beq_iff_eq] at h2;rw [← h2];exact h1
 ·exact fun h=>⟨n,h,by simp⟩
theorem km (f:Nat→Bool) (n k:Nat) (h:k<n):dP (idxOf f n) (k:Int)=f k:=by
 rw [Bool.eq_iff_iff,cM,bw]
 constructor
 ·rintro ⟨i,_,h2,h3⟩;rw [show k=i by omega];exact h2
 ·exact fun h2=>⟨k,h,h2,rfl⟩
theorem DP {sig:List Ctl} {b:Big} (h:aF sig b=true) {p:Int} (hp:p<b.nodes.length):gV b (idxOf (fun i=>rK sig b i) b.nodes.length) p=k8 sig b p:=
 so h (fun k hk=>km _ _ k hk) (p.toNat+1) p (by omega) hp
def gC (r a:Big) (m:Mat) (i:Nat):Bool:=uu r a m.nodes i && (pu r a m i && lu r a m i)
theorem DT (f g h:Nat→Bool) (n:Nat):(List.range n).all (fun i=>f i && (g i && h i))=((List.range n).all f && ((List.range n).all g && (List.range n).all h)):=by
 rw [Bool.eq_iff_iff]
 simp only [Bool.and_eq_true,aG]
 exact ⟨fun k=>⟨fun i hi=>(k i hi).1,fun i hi=>(k i hi).2.1,fun i hi=>(k i hi).2.2⟩,fun k i hi=>⟨k.1 i hi,k.2.1 i hi,k.2.2 i hi⟩⟩
theorem yF (r a:Big) (m:Mat):dD r a m=((decide (m.nodes.length=r.nodes.length) && decide ((m.roots.length:Int)=r.roots)) && ((List.range m.nodes.length).all (tZ a m.nodes) && (m.roots.all (jP a m.nodes) && ((List.range m.nodes.length).all (gC r a m) && gw r a m.nodes)))):=by
 have e:(List.range m.nodes.length).all (gC r a m)=((List.range m.nodes.length).all (uu r a m.nodes) && ((List.range m.nodes.length).all (pu r a m) && (List.range m.nodes.length).all (lu r a m))):=DT _ _ _ _
 rw [e]
 unfold dD rH fP
 rw [Bool.eq_iff_iff]
 simp only [Bool.and_eq_true]
 constructor
 ·rintro ⟨⟨⟨h1,h2,h3⟩,h4,h5⟩,h6,h7,h8⟩;exact ⟨⟨h1,h5⟩,h2,h4,⟨h3,h6,h7⟩,h8⟩
 ·rintro ⟨⟨h1,h5⟩,h2,h4,⟨h3,h6,h7⟩,h8⟩;exact ⟨⟨⟨h1,h2,h3⟩,h4,h5⟩,h6,h7,h8⟩
theorem cL (f:Nat→Bool) (n:Nat):(List.range (n+1)).all f=((List.range n).all f && f n):=by rw [List.range_succ,List.all_append];simp
theorem fL (f:Nat→Bool) (n i:Nat) (h:n≤i) (hi:i≤n) (ha:(List.range i).all f=true):(List.range n).all f=true:=by rw [show n=i by omega];exact ha
def GE (r a:Big) (ns:List Int) (i:Nat):Bool:=tZ a ns i && uu r a ns i
theorem ws (r a:Big) (ns:List Int):rH r a ns=(decide (ns.length=r.nodes.length) && (List.range ns.length).all (GE r a ns)):=by
 unfold rH GE
 congr 1
 rw [Bool.eq_iff_iff]
 simp only [Bool.and_eq_true,aG]
 exact ⟨fun h i hi=>⟨h.1 i hi,h.2 i hi⟩,fun h=>⟨fun i hi=>(h i hi).1,fun i hi=>(h i hi).2⟩⟩
theorem EV (r a:Big) (ns:List Int) (i:Nat) (h:i<ns.length) (hr:i<r.nodes.length):GE r a ns i=((inR ns[i] 0 ((a.nodes.length:Int) - 1) && !dP (ns.take i) ns[i]) && decide ((dR a ns[i]).control=(r.nodes[i]).control)):=by
 unfold GE tZ uu
 rw [show atI ns (i:Int)=ns[i] by unfold atI;simp [h],aD r i hr]
theorem gB {α:Type} (p:α→Bool) (xs:List α) (i:Nat) (h:xs.length≤i) (hp:(xs.take i).all p=true):xs.all p=true:=by rwa [List.take_of_length_le h] at hp
end Go.Proofs.YtacafmejcdgboaaGreatDoor
