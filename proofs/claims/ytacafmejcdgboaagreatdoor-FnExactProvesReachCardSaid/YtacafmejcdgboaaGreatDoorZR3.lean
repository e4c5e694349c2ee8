/-
  Proved facts that the law leans on.
-/
import Derived.Test.YtacafmejcdgboaaGreatDoorZR2
import Derived.Shelf.Strings.Trim
import Derived.Shelf.Small.Utf8
import Derived.Shelf.Small.Bits
import Derived.Shelf.Small.Strs
import Derived.Shelf.Small.Wraps
import Derived.Shelf.Strconv.Itoa0
import Derived.Shelf.Strings.Search1
import Derived.Shelf.Strings.Runes
import Derived.Shelf.Strings.AsciiSet
import Derived.Shelf.Bits.Mul64
import Derived.Shelf.Unicode.DecodeSlow
import Derived.Shelf.Slices.Turned
import Derived.Shelf.Slices.Equal
import Derived.Shelf.Slices.Empties2
import Derived.Ground.SlgnProg
import Derived.Shelf.SlicesE.Equal
import Derived.Shelf.SlicesE.Compact
import Derived.Ground.SlgfProg
import Derived.Shelf.SlicesE.IndexFunc
import Derived.Shelf.SlicesE.DeleteFunc
import Derived.Test.YtacafmejcdgboaaGreatDoorProg
import Derived.Test.YtacafmejcdgboaaGreatDoorRows
import Derived.WalkSpells
import Derived.WalkLawsBesides
import Derived.Deep.DeepMust
import Derived.Lib.SliceRun
import Derived.Shelf.Strings.SlTrimAscii
import Derived.BigQuiet
import Derived.Deep.RegionWith
import Derived.Deep.DrawnRows
import Derived.Deep.RegionHeld3
namespace Go.Proofs
open Go.Shelf
def Tryz.lays160_ren : Go.Shelf.Ren := ⟨fun | 160 => 273 | 232 => 308 | 231 => 307 | 227 => 309 | 234 => 311 | 233 => 310 | 236 => 313 | 235 => 312 | 228 => 344 | 271 => 347 | 151 => 346 | 197 => 345 | 120 => 367 | 152 => 366 | 260 => 365 | 137 => 373 | 119 => 374 | 224 => 375 | 225 => 376 | 217 => 378 | 266 => 379 | n => n, fun | 9 => 9 | 4 => 4 | 3 => 3 | 5 => 5 | 117 => 302 | 116 => 301 | 0 => 0 | 124 => 305 | 21 => 21 | 105 => 327 | 46 => 264 | 119 => 348 | 139 => 351 | 138 => 350 | n => n, fun | 3 => 0 | 4 => 1 | n => n⟩
theorem Tryz.lays160 : Go.Proofs.Lays.n160 Tryz.prog Tryz.lays160_ren := {
  mixed := by kernel_rfl
  f119 := Tryz.func374.trans (congrArg some (by kernel_rfl))
  f120 := Tryz.func367.trans (congrArg some (by kernel_rfl))
  f137 := Tryz.func373.trans (congrArg some (by kernel_rfl))
  f151 := Tryz.func346.trans (congrArg some (by kernel_rfl))
  f152 := Tryz.func366.trans (congrArg some (by kernel_rfl))
  f160 := Tryz.func273.trans (congrArg some (by kernel_rfl))
  f197 := Tryz.func345.trans (congrArg some (by kernel_rfl))
  f217 := Tryz.func378.trans (congrArg some (by kernel_rfl))
  f224 := Tryz.func375.trans (congrArg some (by kernel_rfl))
  f225 := Tryz.func376.trans (congrArg some (by kernel_rfl))
  f227 := Tryz.func309.trans (congrArg some (by kernel_rfl))
  f228 := Tryz.func344.trans (congrArg some (by kernel_rfl))
  f231 := Tryz.func307.trans (congrArg some (by kernel_rfl))
  f232 := Tryz.func308.trans (congrArg some (by kernel_rfl))
  f233 := Tryz.func310.trans (congrArg some (by kernel_rfl))
  f234 := Tryz.func311.trans (congrArg some (by kernel_rfl))
  f235 := Tryz.func312.trans (congrArg some (by kernel_rfl))
  f236 := Tryz.func313.trans (congrArg some (by kernel_rfl))
  f260 := Tryz.func365.trans (congrArg some (by kernel_rfl))
  f266 := Tryz.func379.trans (congrArg some (by kernel_rfl))
  f271 := Tryz.func347.trans (congrArg some (by kernel_rfl))
  t0 := Tryz.underlying0
  a0 := Tryz.isAgg0
  z0 := Tryz.sizeOf0
  v0 := Tryz.zeroValue0
  t3 := Tryz.underlying3
  a3 := Tryz.isAgg3
  z3 := Tryz.sizeOf3
  v3 := Tryz.zeroValue3
  t4 := Tryz.underlying4
  a4 := Tryz.isAgg4
  z4 := Tryz.sizeOf4
  v4 := Tryz.zeroValue4
  t5 := Tryz.underlying5
  a5 := Tryz.isAgg5
  z5 := Tryz.sizeOf5
  v5 := Tryz.zeroValue5
  t9 := Tryz.underlying9
  a9 := Tryz.isAgg9
  z9 := Tryz.sizeOf9
  v9 := Tryz.zeroValue9
  t21 := Tryz.underlying21
  a21 := Tryz.isAgg21
  z21 := Tryz.sizeOf21
  v21 := Tryz.zeroValue21
  t46 := Tryz.underlying264
  a46 := Tryz.isAgg264
  z46 := Tryz.sizeOf264
  v46 := Tryz.zeroValue264
  t105 := Tryz.underlying327
  a105 := Tryz.isAgg327
  z105 := Tryz.sizeOf327
  v105 := Tryz.zeroValue327
  t116 := Tryz.underlying301
  a116 := Tryz.isAgg301
  z116 := Tryz.sizeOf301
  t117 := Tryz.underlying302
  a117 := Tryz.isAgg302
  z117 := Tryz.sizeOf302
  v117 := Tryz.zeroValue302
  t119 := Tryz.underlying348
  a119 := Tryz.isAgg348
  z119 := Tryz.sizeOf348
  t124 := Tryz.underlying305
  a124 := Tryz.isAgg305
  z124 := Tryz.sizeOf305
  v124 := Tryz.zeroValue305
  t138 := Tryz.underlying350
  a138 := Tryz.isAgg350
  z138 := Tryz.sizeOf350
  v138 := Tryz.zeroValue350
  t139 := Tryz.underlying351
  a139 := Tryz.isAgg351
  z139 := Tryz.sizeOf351
  v139 := Tryz.zeroValue351
  g3 := by kernel_rfl
  g4 := by kernel_rfl }
def Tryz.lays212_ren : Go.Shelf.Ren := ⟨fun | 212 => 261 | 263 => 285 | 264 => 286 | n => n, fun | 46 => 264 | 51 => 276 | 146 => 277 | 53 => 279 | 148 => 280 | n => n, fun | n => n⟩
theorem Tryz.lays212 : Go.Proofs.Lays.n212 Tryz.prog Tryz.lays212_ren := {
  mixed := by kernel_rfl
  f212 := Tryz.func261.trans (congrArg some (by kernel_rfl))
  f263 := Tryz.func285.trans (congrArg some (by kernel_rfl))
  f264 := Tryz.func286.trans (congrArg some (by kernel_rfl))
  t46 := Tryz.underlying264
  a46 := Tryz.isAgg264
  z46 := Tryz.sizeOf264
  v46 := Tryz.zeroValue264
  t51 := Tryz.underlying276
  a51 := Tryz.isAgg276
  z51 := Tryz.sizeOf276
  v51 := Tryz.zeroValue276
  t53 := Tryz.underlying279
  a53 := Tryz.isAgg279
  z53 := Tryz.sizeOf279
  v53 := Tryz.zeroValue279
  t146 := Tryz.underlying277
  a146 := Tryz.isAgg277
  z146 := Tryz.sizeOf277
  v146 := Tryz.zeroValue277
  t148 := Tryz.underlying280
  a148 := Tryz.isAgg280
  z148 := Tryz.sizeOf280
  v148 := Tryz.zeroValue280 }
open Go.RowKit Go.Lib in
theorem Tryz.bits_Mul (x y : Nat) (hx : x < 18446744073709551616) (hy : y < 18446744073709551616) (w : World) :
    Calls Tryz.prog 261 #[.int .u64 x, .int .u64 y] w fun e w' => e = .returned (.tuple #[.int .u64 ((x * y / 18446744073709551616 : Nat) : Int), .int .u64 ((x * y % 18446744073709551616 : Nat) : Int)]) ∧ w' = w := Any.bits_Mul Tryz.lays212 x y hx hy w
def Tryz.lays110_ren : Go.Shelf.Ren := ⟨fun | 110 => 237 | 109 => 265 | n => n, fun | 31 => 26 | 9 => 9 | 4 => 4 | 3 => 3 | 0 => 0 | n => n, fun | n => n⟩
theorem Tryz.lays110 : Go.Proofs.Lays.n110 Tryz.prog Tryz.lays110_ren := {
  mixed := by kernel_rfl
  f109 := Tryz.func265.trans (congrArg some (by kernel_rfl))
  f110 := Tryz.func237.trans (congrArg some (by kernel_rfl))
  t0 := Tryz.underlying0
  a0 := Tryz.isAgg0
  z0 := Tryz.sizeOf0
  v0 := Tryz.zeroValue0
  t3 := Tryz.underlying3
  a3 := Tryz.isAgg3
  z3 := Tryz.sizeOf3
  v3 := Tryz.zeroValue3
  t4 := Tryz.underlying4
  a4 := Tryz.isAgg4
  z4 := Tryz.sizeOf4
  v4 := Tryz.zeroValue4
  t9 := Tryz.underlying9
  a9 := Tryz.isAgg9
  z9 := Tryz.sizeOf9
  v9 := Tryz.zeroValue9
  t31 := Tryz.underlying26
  a31 := Tryz.isAgg26
  z31 := Tryz.sizeOf26
  v31 := Tryz.zeroValue26 }
open Go.Lib in
theorem Tryz.slices_Contains_string (b off n c : Nat) (zs : List ByteArray) (x : ByteArray) (w : World) (hz : n ≤ zs.length) (hbig : n ≤ 9223372036854775807) (hc : ∀ j, j < zs.length → w.cell? ⟨b, off + j, none⟩ = some (.string (zs.getD j ByteArray.empty))) :
    Calls Tryz.prog 237 #[.slice (some ⟨b, off, none⟩) n c, .string x] w fun e w' => e = .returned (.bool (Lib.containsS (zs.take n) x)) ∧ w' = w := Any.slices_Contains_string Tryz.lays110 b off n c zs x w hz hbig hc
open Go.Lib in
theorem Tryz.slices_Contains_string_empty (a : Option Addr) (c : Nat) (x : ByteArray) (w : World) :
    Calls Tryz.prog 237 #[.slice a 0 c, .string x] w fun e w' => e = .returned (.bool false) ∧ w' = w := Any.slices_Contains_string_empty Tryz.lays110 a c x w
end Go.Proofs
namespace Go.Proofs.YtacafmejcdgboaaGreatDoor
open Go.RowKit
set_option linter.unusedVariables false
set_option linter.unusedSimpArgs false
set_option maxHeartbeats 400000 in
theorem aL (n a b:Int) (w:World) :
 Calls Tryz.prog 100 #[.int .i64 n,.int .i64 a,.int .i64 b] w fun e w'=>e=.returned (.bool (inR n a b))∧w=w':=by
 by_cases h:a≤n
 ·go_enter Tryz.func100,Tryz.ntmps100
  go_wp2
  go_ret
  exact ⟨by simp [inR,h],rfl⟩
 ·go_enter Tryz.func100,Tryz.ntmps100
  go_wp2
  go_ret
  exact ⟨by simp [inR];omega,rfl⟩
set_option maxHeartbeats 400000 in
theorem gE (n a b:Int) (w:World) :
 Calls Tryz.prog 90 #[.int .i64 n,.int .i64 a,.int .i64 b] w fun e w'=>e=.returned (.bool (inR n a b))∧w=w':=by
 by_cases h:a≤n
 ·go_enter Tryz.func90,Tryz.ntmps90
  go_wp2
  go_ret
  exact ⟨by simp [inR,h],rfl⟩
 ·go_enter Tryz.func90,Tryz.ntmps90
  go_wp2
  go_ret
  exact ⟨by simp [inR];omega,rfl⟩
end Go.Proofs.YtacafmejcdgboaaGreatDoor
namespace Go.Proofs.YtacafmejcdgboaaGreatDoor
open Go.RowKit
set_option linter.unusedVariables false
set_option linter.unusedSimpArgs false
theorem d7 {α:Type} (p:α→Bool) (xs:List α) (i:Nat) (h:i<xs.length):(xs.take (i+1)).any p=((xs.take i).any p || p xs[i]):=by
 rw [List.take_succ_eq_append_getElem h,List.any_append,List.any_cons,List.any_nil,Bool.or_false]
theorem oQ {α:Type} (p:α→Bool) (xs:List α) (i:Nat) (h:i<xs.length) (hp:p xs[i]=true):xs.any p=true:=List.any_eq_true.2 ⟨_,List.getElem_mem h,hp⟩
set_option maxHeartbeats 1600000 in
theorem gZ (lo hi:Nat) (p:Int→Bool) (gf:FuncId) (lb:Array Value) (v:Value) (xs:List Int) (w:World) (h:SlV 1 cH lo hi w v xs) (eg:∀args w,(callFunc gf args).run Tryz.prog w=.ok (.enter gf args) w)
 (hf:∀(i:Nat) (h:i<xs.length) (cs:List Value) (W:World),Ext w W→cH lo hi W cs xs[i]→Calls Tryz.prog gf (#[.int .i64 xs[i]]++lb) W fun e W'=>e=.returned (.bool (p xs[i]))∧Ext W W') :
 Calls Tryz.prog 222 #[v,.func (.func gf) #[] lb] w fun e w'=>∃r:Int,e=.returned (.int .i64 r)∧decide (0≤r)=xs.any p∧Ext w w':=by
 obtain ⟨a,k,rfl,g1,g2,g3,g4⟩:=h
 unfold maxLen at g2
 go_enter Tryz.func222,Tryz.ntmps222
 go_wp2
 go_loopw [5,8] (fun _ c wr=>∃i:Nat,c=.int .i64 i∧i≤xs.length∧(xs.take i).any p=false∧Ext w wr) (fun _ c _=>xs.length - (intOf c).toNat)
 case atStart=>exact ⟨0,rfl,Nat.zero_le _,rfl,xw⟩
 case round=>
  obtain ⟨i,rfl,hi',hno,hx⟩:=hrel
  by_cases hlt:i<xs.length
  ·rcases g4 with g4|⟨b,o,rfl,gb1,gb2,g4⟩
   ·subst g4;simp at hlt
   ·obtain ⟨cs,hl,hP,hc⟩:=g4 i hlt
    have HP:=cH.keeps _ _ _ _ _ _ (cW.ext hx) hP
    have HF:=hf i hlt cs wr hx HP
    obtain ⟨rfl,e1⟩:=hP
    have q0:=hx.keep (hc 0 _ rfl)
    rw [Nat.mul_one,Nat.add_zero] at q0
    clear g4 hc hf
    have hsucc:=d7 p xs i hlt
    have hany:=oQ p xs i hlt
    generalize hpv:p xs[i]=pv at HF hsucc hany
    cases pv
    ·go_wp2_with (refine HF.mono ?_;rintro e y ⟨rfl,hb⟩)
     go_roundw
     case rel=>exact ⟨i+1,rfl,by omega,by rw [hsucc,hno];rfl,xw⟩
     ·simp only [intOf];omega
    ·have hA:=Lib.hid (hany rfl)
     clear hany hsucc
     go_wp2_with (refine HF.mono ?_;rintro e y ⟨rfl,hb⟩)
     go_ret
     exact ⟨_,rfl,by rw [hA.out];simp,xw⟩
  ·go_wp2
   go_ret
   rw [List.take_of_length_le (by omega)] at hno
   exact ⟨_,rfl,by rw [hno];rfl,xw⟩
theorem bC (lo hi:Nat) (p:Int→Bool) (gf:FuncId) (lb:Array Value) (v:Value) (xs:List Int) (w:World) (h:SlV 1 cH lo hi w v xs) (eg:∀args w,(callFunc gf args).run Tryz.prog w=.ok (.enter gf args) w)
 (hf:∀(i:Nat) (h:i<xs.length) (cs:List Value) (W:World),Ext w W→cH lo hi W cs xs[i]→Calls Tryz.prog gf (#[.int .i64 xs[i]]++lb) W fun e W'=>e=.returned (.bool (p xs[i]))∧Ext W W') :
 Calls Tryz.prog 156 #[v,.func (.func gf) #[] lb] w fun e w'=>e=.returned (.bool (xs.any p))∧Ext w w':=by
 have H:=gZ lo hi p gf lb v xs w h eg hf
 clear hf
 generalize xs.any p=r0 at H ⊢
 go_enter Tryz.func156,Tryz.ntmps156
 go_wp2_with (go_at_call 222;refine H.mono ?_;rintro e y ⟨r,rfl,hr,hb⟩)
 all_goals go_ret
 all_goals exact ⟨ap (by simp),xw⟩
set_option maxHeartbeats 1600000 in
theorem dh (lo hi:Nat) (p:Ctl→Bool) (gf:FuncId) (lb:Array Value) (v:Value) (xs:List Ctl) (w:World) (h:SlV 3 gU lo hi w v xs) (eg:∀args w,(callFunc gf args).run Tryz.prog w=.ok (.enter gf args) w)
 (hf:∀(i:Nat) (h:i<xs.length) (cs:List Value) (W:World),Ext w W→gU lo hi W cs xs[i]→Calls Tryz.prog gf (#[.agg cs.toArray]++lb) W fun e W'=>e=.returned (.bool (p xs[i]))∧Ext W W') :
 Calls Tryz.prog 274 #[v,.func (.func gf) #[] lb] w fun e w'=>∃r:Int,e=.returned (.int .i64 r)∧decide (0≤r)=xs.any p∧Ext w w':=by
 obtain ⟨a,k,rfl,g1,g2,g3,g4⟩:=h
 unfold maxLen at g2
 go_enter Tryz.func274,Tryz.ntmps274
 go_wp2
 go_loopw [5,8] (fun _ c wr=>∃i:Nat,c=.int .i64 i∧i≤xs.length∧(xs.take i).any p=false∧Ext w wr) (fun _ c _=>xs.length - (intOf c).toNat)
 case atStart=>exact ⟨0,rfl,Nat.zero_le _,rfl,xw⟩
 case round=>
  obtain ⟨i,rfl,hi',hno,hx⟩:=hrel
  by_cases hlt:i<xs.length
  ·rcases g4 with g4|⟨b,o,rfl,gb1,gb2,g4⟩
   ·subst g4;simp at hlt
   ·obtain ⟨cs,hl,hP,hc⟩:=g4 i hlt
    have HP:=gU.keeps _ _ _ _ _ _ (cW.ext hx) hP
    have HF:=hf i hlt cs wr hx HP
    obtain ⟨rfl,e1,e2,e3⟩:=hP
    have q0:=hx.keep (hc 0 _ rfl)
    have q1:=hx.keep (hc 1 _ rfl)
    have q2:=hx.keep (hc 2 _ rfl)
    rw [Nat.add_zero] at q0
    clear g4 hc hf
    have hsucc:=d7 p xs i hlt
    have hany:=oQ p xs i hlt
    generalize hpv:p xs[i]=pv at HF hsucc hany
    cases pv
    ·go_wp2_with (refine HF.mono ?_;rintro e y ⟨rfl,hb⟩)
     go_roundw
     case rel=>exact ⟨i+1,rfl,by omega,by rw [hsucc,hno];rfl,xw⟩
     ·simp only [intOf];omega
    ·have hA:=Lib.hid (hany rfl)
     clear hany hsucc
     go_wp2_with (refine HF.mono ?_;rintro e y ⟨rfl,hb⟩)
     go_ret
     exact ⟨_,rfl,by rw [hA.out];simp,xw⟩
  ·go_wp2
   go_ret
   rw [List.take_of_length_le (by omega)] at hno
   exact ⟨_,rfl,by rw [hno];rfl,xw⟩
theorem cU (lo hi:Nat) (p:Ctl→Bool) (gf:FuncId) (lb:Array Value) (v:Value) (xs:List Ctl) (w:World) (h:SlV 3 gU lo hi w v xs) (eg:∀args w,(callFunc gf args).run Tryz.prog w=.ok (.enter gf args) w)
 (hf:∀(i:Nat) (h:i<xs.length) (cs:List Value) (W:World),Ext w W→gU lo hi W cs xs[i]→Calls Tryz.prog gf (#[.agg cs.toArray]++lb) W fun e W'=>e=.returned (.bool (p xs[i]))∧Ext W W') :
 Calls Tryz.prog 242 #[v,.func (.func gf) #[] lb] w fun e w'=>e=.returned (.bool (xs.any p))∧Ext w w':=by
 have H:=dh lo hi p gf lb v xs w h eg hf
 clear hf
 generalize xs.any p=r0 at H ⊢
 go_enter Tryz.func242,Tryz.ntmps242
 go_wp2_with (go_at_call 274;refine H.mono ?_;rintro e y ⟨r,rfl,hr,hb⟩)
 all_goals go_ret
 all_goals exact ⟨ap (by simp),xw⟩
set_option maxHeartbeats 1600000 in
theorem dW (lo hi:Nat) (p:Wr→Bool) (gf:FuncId) (lb:Array Value) (v:Value) (xs:List Wr) (w:World) (h:SlV 2 WrP lo hi w v xs) (eg:∀args w,(callFunc gf args).run Tryz.prog w=.ok (.enter gf args) w)
 (hf:∀(i:Nat) (h:i<xs.length) (cs:List Value) (W:World),Ext w W→WrP lo hi W cs xs[i]→Calls Tryz.prog gf (#[.agg cs.toArray]++lb) W fun e W'=>e=.returned (.bool (p xs[i]))∧Ext W W') :
 Calls Tryz.prog 244 #[v,.func (.func gf) #[] lb] w fun e w'=>∃r:Int,e=.returned (.int .i64 r)∧decide (0≤r)=xs.any p∧Ext w w':=by
 obtain ⟨a,k,rfl,g1,g2,g3,g4⟩:=h
 unfold maxLen at g2
 go_enter Tryz.func244,Tryz.ntmps244
 go_wp2
 go_loopw [5,8] (fun _ c wr=>∃i:Nat,c=.int .i64 i∧i≤xs.length∧(xs.take i).any p=false∧Ext w wr) (fun _ c _=>xs.length - (intOf c).toNat)
 case atStart=>exact ⟨0,rfl,Nat.zero_le _,rfl,xw⟩
 case round=>
  obtain ⟨i,rfl,hi',hno,hx⟩:=hrel
  by_cases hlt:i<xs.length
  ·rcases g4 with g4|⟨b,o,rfl,gb1,gb2,g4⟩
   ·subst g4;simp at hlt
   ·obtain ⟨cs,hl,hP,hc⟩:=g4 i hlt
    have HP:=WrP.keeps _ _ _ _ _ _ (cW.ext hx) hP
    have HF:=hf i hlt cs wr hx HP
    obtain ⟨rfl,e1,e2⟩:=hP
    have q0:=hx.keep (hc 0 _ rfl)
    have q1:=hx.keep (hc 1 _ rfl)
    rw [Nat.add_zero] at q0
    clear g4 hc hf
    have hsucc:=d7 p xs i hlt
    have hany:=oQ p xs i hlt
    generalize hpv:p xs[i]=pv at HF hsucc hany
    cases pv
    ·go_wp2_with (refine HF.mono ?_;rintro e y ⟨rfl,hb⟩)
     go_roundw
     case rel=>exact ⟨i+1,rfl,by omega,by rw [hsucc,hno];rfl,xw⟩
     ·simp only [intOf];omega
    ·have hA:=Lib.hid (hany rfl)
     clear hany hsucc
     go_wp2_with (refine HF.mono ?_;rintro e y ⟨rfl,hb⟩)
     go_ret
     exact ⟨_,rfl,by rw [hA.out];simp,xw⟩
  ·go_wp2
   go_ret
   rw [List.take_of_length_le (by omega)] at hno
   exact ⟨_,rfl,by rw [hno];rfl,xw⟩
theorem dD (lo hi:Nat) (p:Wr→Bool) (gf:FuncId) (lb:Array Value) (v:Value) (xs:List Wr) (w:World) (h:SlV 2 WrP lo hi w v xs) (eg:∀args w,(callFunc gf args).run Tryz.prog w=.ok (.enter gf args) w)
 (hf:∀(i:Nat) (h:i<xs.length) (cs:List Value) (W:World),Ext w W→WrP lo hi W cs xs[i]→Calls Tryz.prog gf (#[.agg cs.toArray]++lb) W fun e W'=>e=.returned (.bool (p xs[i]))∧Ext W W') :
 Calls Tryz.prog 174 #[v,.func (.func gf) #[] lb] w fun e w'=>e=.returned (.bool (xs.any p))∧Ext w w':=by
 have H:=dW lo hi p gf lb v xs w h eg hf
 clear hf
 generalize xs.any p=r0 at H ⊢
 go_enter Tryz.func174,Tryz.ntmps174
 go_wp2_with (go_at_call 244;refine H.mono ?_;rintro e y ⟨r,rfl,hr,hb⟩)
 all_goals go_ret
 all_goals exact ⟨ap (by simp),xw⟩
set_option maxHeartbeats 1600000 in
theorem dY (lo hi:Nat) (p:Rul→Bool) (gf:FuncId) (lb:Array Value) (v:Value) (xs:List Rul) (w:World) (h:SlV 13 sM lo hi w v xs) (eg:∀args w,(callFunc gf args).run Tryz.prog w=.ok (.enter gf args) w)
 (hf:∀(i:Nat) (h:i<xs.length) (cs:List Value) (W:World),Ext w W→sM lo hi W cs xs[i]→Calls Tryz.prog gf (#[.agg cs.toArray]++lb) W fun e W'=>e=.returned (.bool (p xs[i]))∧Ext W W') :
 Calls Tryz.prog 220 #[v,.func (.func gf) #[] lb] w fun e w'=>∃r:Int,e=.returned (.int .i64 r)∧decide (0≤r)=xs.any p∧Ext w w':=by
 obtain ⟨a,k,rfl,g1,g2,g3,g4⟩:=h
 unfold maxLen at g2
 go_enter Tryz.func220,Tryz.ntmps220
 go_wp2
 go_loopw [5,8] (fun _ c wr=>∃i:Nat,c=.int .i64 i∧i≤xs.length∧(xs.take i).any p=false∧Ext w wr) (fun _ c _=>xs.length - (intOf c).toNat)
 case atStart=>exact ⟨0,rfl,Nat.zero_le _,rfl,xw⟩
 case round=>
  obtain ⟨i,rfl,hi',hno,hx⟩:=hrel
  by_cases hlt:i<xs.length
  ·rcases g4 with g4|⟨b,o,rfl,gb1,gb2,g4⟩
   ·subst g4;simp at hlt
   ·obtain ⟨cs,hl,hP,hc⟩:=g4 i hlt
    have HP:=sM.keeps _ _ _ _ _ _ (cW.ext hx) hP
    have HF:=hf i hlt cs wr hx HP
    obtain ⟨c1,c2,v,rfl,⟨v1,v2,v4,v5,rfl,_⟩,⟨y1,y2,y4,y5,rfl,_⟩,eC⟩:=hP
    have q0:=hx.keep (hc 0 _ rfl)
    have q1:=hx.keep (hc 1 _ rfl)
    have q2:=hx.keep (hc 2 _ rfl)
    have q3:=hx.keep (hc 3 _ rfl)
    have q4:=hx.keep (hc 4 _ rfl)
    have q5:=hx.keep (hc 5 _ rfl)
    have q6:=hx.keep (hc 6 _ rfl)
    have q7:=hx.keep (hc 7 _ rfl)
    have q8:=hx.keep (hc 8 _ rfl)
    have q9:=hx.keep (hc 9 _ rfl)
    have q10:=hx.keep (hc 10 _ rfl)
    have q11:=hx.keep (hc 11 _ rfl)
    have q12:=hx.keep (hc 12 _ rfl)
    rw [Nat.add_zero] at q0
    clear g4 hc hf
    have hsucc:=d7 p xs i hlt
    have hany:=oQ p xs i hlt
    generalize hpv:p xs[i]=pv at HF hsucc hany
    cases pv
    ·go_wp2_with (refine HF.mono ?_;rintro e y ⟨rfl,hb⟩)
     go_roundw
     case rel=>exact ⟨i+1,rfl,by omega,by rw [hsucc,hno];rfl,xw⟩
     ·simp only [intOf];omega
    ·have hA:=Lib.hid (hany rfl)
     clear hany hsucc
     go_wp2_with (refine HF.mono ?_;rintro e y ⟨rfl,hb⟩)
     go_ret
     exact ⟨_,rfl,by rw [hA.out];simp,xw⟩
  ·go_wp2
   go_ret
   rw [List.take_of_length_le (by omega)] at hno
   exact ⟨_,rfl,by rw [hno];rfl,xw⟩
theorem dB (lo hi:Nat) (p:Rul→Bool) (gf:FuncId) (lb:Array Value) (v:Value) (xs:List Rul) (w:World) (h:SlV 13 sM lo hi w v xs) (eg:∀args w,(callFunc gf args).run Tryz.prog w=.ok (.enter gf args) w)
 (hf:∀(i:Nat) (h:i<xs.length) (cs:List Value) (W:World),Ext w W→sM lo hi W cs xs[i]→Calls Tryz.prog gf (#[.agg cs.toArray]++lb) W fun e W'=>e=.returned (.bool (p xs[i]))∧Ext W W') :
 Calls Tryz.prog 149 #[v,.func (.func gf) #[] lb] w fun e w'=>e=.returned (.bool (xs.any p))∧Ext w w':=by
 have H:=dY lo hi p gf lb v xs w h eg hf
 clear hf
 generalize xs.any p=r0 at H ⊢
 go_enter Tryz.func149,Tryz.ntmps149
 go_wp2_with (go_at_call 220;refine H.mono ?_;rintro e y ⟨r,rfl,hr,hb⟩)
 all_goals go_ret
 all_goals exact ⟨ap (by simp),xw⟩
end Go.Proofs.YtacafmejcdgboaaGreatDoor
namespace Go.Proofs.YtacafmejcdgboaaGreatDoor
open Go.RowKit
set_option linter.unusedVariables false
set_option linter.unusedSimpArgs false
def vd (c:UInt8):Bool:=inR (c.toNat:Int) 97 122
def di (s:ByteArray):Bool:=inR (s.size:Int) 1 4 && s.data.toList.all vd
def xH:List UInt8:=[97,98,99,100,101,102,103,104,105,106,107,108,109,110,111,112,113,114,115,116,117,118,119,120,121,122]
theorem Eu:∀n:Fin 256,xH.contains (UInt8.ofNat n.val)=vd (UInt8.ofNat n.val):=by decide +kernel
theorem De (c:UInt8):xH.contains c=vd c:=by
 have h:=Eu ⟨c.toNat,c.toNat_lt⟩
 simpa using h
theorem ln (p:UInt8→Bool):∀l:List UInt8,l.dropWhile p = []↔l.all p=true:=by
 intro l
 induction l with
 | nil=>simp
 | cons x l ih=>
  rw [List.dropWhile_cons,List.all_cons]
  cases hx:p x
  ·simp
  ·simp only [if_true,Bool.true_and]
   exact ih
theorem pJ (p:UInt8→Bool):∀l:List UInt8,(l.dropWhile p).all p=true→l.all p=true:=by
 intro l
 induction l with
 | nil=>intro h;rfl
 | cons x l ih=>
  rw [List.dropWhile_cons]
  cases hx:p x
  ·simp [hx]
  ·simp only [if_true,List.all_cons,hx,Bool.true_and]
   exact ih
theorem AV (l:List UInt8):(Lib.trimS l xH = [])↔l.all vd=true:=by
 have e:(fun c=>xH.contains c)=vd:=funext De
 unfold Lib.trimS Lib.trimLeftS Lib.trimRightS
 show List.dropWhile (fun c=>xH.contains c) ((List.dropWhile (fun c=>xH.contains c) l.reverse).reverse) = []↔_
 rw [e,ln,List.all_reverse]
 constructor
 ·intro h
  have:=pJ vd _ h
  rwa [List.all_reverse] at this
 ·intro h
  have h2:List.dropWhile vd l.reverse = []:=(ln vd _).2 (by rw [List.all_reverse];exact h)
  rw [h2];rfl
theorem wk (s:ByteArray):(⟨(Lib.trimS s.data.toList xH).toArray⟩:ByteArray).toList.isEmpty=s.data.toList.all vd:=by
 rw [Lib.toList_data]
 show (Lib.trimS s.data.toList xH).toArray.toList.isEmpty=_
 rw [List.toList_toArray]
 rw [Bool.eq_iff_iff,List.isEmpty_iff]
 exact AV _
attribute [local irreducible] inR
set_option maxRecDepth 100000 in
set_option maxHeartbeats 800000 in
theorem d9 (s:ByteArray) (w:World) (hs:s.size≤maxLen) :
 Calls Tryz.prog 241 #[.string s] w fun e w'=>e=.returned (.bool (di s))∧Ext w w':=by
 have hs':=hs
 unfold maxLen at hs'
 have HT:=Any.strings_Trim_laid Tryz.lays160 (by kernel_rfl) s ⟨xH.toArray⟩ w (by omega) (by decide) (ascii_of_all (by decide))
 change Calls Tryz.prog 273 _ _ _ at HT
 have HE:=Lib.hid (wk s)
 unfold di
 cases h1:inR (s.size:Int) 1 4
 ·have H1:=Lib.hid h1
  clear h1
  go_enter Tryz.func241,Tryz.ntmps241
  go_wp2_with (go_at_call 100;refine (aL _ _ _ _).mono ?_;rintro e w' ⟨rfl,rfl⟩;rw [H1.out])
  go_ret
  exact ⟨rfl,xw⟩
 ·have H1:=Lib.hid h1
  clear h1
  have HE2:Hid ((⟨(Lib.trimS s.data.toList xH).toArray⟩:ByteArray).toList.isEmpty=s.data.toList.all vd):=HE
  generalize hT:(⟨(Lib.trimS s.data.toList xH).toArray⟩:ByteArray)=T at HE2
  have HT2:Calls Tryz.prog 273 #[.string s,.string ⟨xH.toArray⟩] w fun e w'=>e=.returned (.string T)∧Ext w w':=HT.mono fun e w' ⟨h,k⟩=>⟨by rw [h,← hT],k⟩
  clear HT HE hT
  go_enter Tryz.func241,Tryz.ntmps241
  go_wp2_with (first|(go_at_call 100;refine (aL _ _ _ _).mono ?_;rintro e w' ⟨rfl,rfl⟩;rw [H1.out])|(go_at_call 273;refine HT2.mono ?_;rintro e y ⟨rfl,hb⟩))
  go_ret
  exact ⟨ap (by first|exact HE2.out|simpa using HE2.out),xw⟩
set_option maxHeartbeats 800000 in
theorem kU (s:ByteArray) (w:World) (hs:s.size≤maxLen) :
 Calls Tryz.prog 195 #[.string s] w fun e w'=>e=.returned (.bool (di s))∧Ext w w':=by
 unfold maxLen at hs
 have hlo:∀c:UInt8,vd c=(decide (97≤(c.toNat:Int)) && decide ((c.toNat:Int)≤122)):=fun c=>by unfold vd inR;rfl
 go_enter Tryz.func195,Tryz.ntmps195
 go_wp2
 go_loopw [3] (fun c wr=>∃k:Nat,k≤s.size∧c=.int .i64 k∧(s.data.toList.take k).all vd=true∧Ext w wr) (fun c _=>s.size - (intOf c).toNat)
 case atStart=>exact ⟨0,Nat.zero_le _,rfl,by simp,xw⟩
 case round=>
  obtain ⟨k,hk,rfl,hp,hx⟩:=hrel
  have HP:=Lib.hid hp
  clear hp
  by_cases hlt:k<s.size
  ·have hb:=Dx s k hlt
   have hsn:=Lib.hid (Ak s k hlt)
   have hat:=Lib.hid (E9 s vd k hlt)
   have hl:=Lib.hid (hlo s[k])
   clear hlo
   by_cases h1:(s[k].toNat:Int)<97
   ·go_wp2
    go_ret
    exact ⟨ap (by unfold di;rw [hat.out (by rw [hl.out];simp;omega),Bool.and_false]),xw⟩
   ·by_cases h2:(122:Int)<(s[k].toNat:Int)
    ·go_wp2
     go_ret
     exact ⟨ap (by unfold di;rw [hat.out (by rw [hl.out];simp;omega),Bool.and_false]),xw⟩
    ·go_wp2
     go_roundw
     case rel=>exact ⟨k+1,by omega,rfl,by rw [hsn.out,List.all_append,HP.out,List.all_cons,hl.out];simp;omega,xw⟩
     ·simp only [intOf];omega
  ·have hta:=Lib.hid (Bu s k hlt)
   go_wp2_with (go_at_call 90;refine (gE _ _ _ _).mono ?_;rintro e w' ⟨rfl,rfl⟩)
   go_ret
   exact ⟨ap (by unfold di;rw [← hta.out,HP.out,Bool.and_true]),xw⟩
end Go.Proofs.YtacafmejcdgboaaGreatDoor
namespace Go.Proofs.YtacafmejcdgboaaGreatDoor
open Go.RowKit
set_option linter.unusedVariables false
set_option linter.unusedSimpArgs false
attribute [local irreducible] inR di
def li (a b:ByteArray):Bool:=a.toList == b.toList
def F0 (c:Ctl):Bool:=di c.name && (inR c.ports 0 3 && inR c.kind 0 2)
def vw (l:List Ctl) (i:Nat) (c:Ctl):Bool:=!(l.take i).any (fun d=>li d.name c.name)
def qT (l:List Ctl) (i:Nat):Bool:=match l[i]? with|none=>true|some c=>F0 c && vw l i c
def kl (l:List Ctl):Bool:=inR (l.length:Int) 1 6 && (List.range l.length).all (qT l)
theorem bL (f:Nat→Bool) (i:Nat):(List.range (i+1)).all f=((List.range i).all f && f i):=by
 rw [List.range_succ,List.all_append];simp
theorem aK (f:Nat→Bool) (n i:Nat) (h:i<n) (hf:f i=false):(List.range n).all f=false:=by
 rw [List.all_eq_false]
 exact ⟨i,List.mem_range.2 h,by simp [hf]⟩
theorem pA (l:List Ctl) (i:Nat) (h:i<l.length):qT l i=(F0 l[i] && vw l i l[i]):=by
 unfold qT;rw [List.getElem?_eq_getElem h]
theorem vz (l:List Ctl) (i:Nat) (h:i<l.length) (hb:qT l i=false):kl l=false:=by
 unfold kl;rw [aK _ _ i h hb,Bool.and_false]
theorem SlV.take {α:Type} {P:Lie α} {size lo hi:Nat} {w:World} {a:Option Addr} {n k:Nat} {xs:List α} (h:SlV size P lo hi w (.slice a n k) xs) (i:Nat) (hi':i≤xs.length):SlV size P lo hi w (.slice a i k) (xs.take i):=by
 obtain ⟨a',k',e,g1,g2,g3,g4⟩:=h
 simp only [Value.slice.injEq] at e
 obtain ⟨rfl,rfl,rfl⟩:=e
 have hl:(xs.take i).length=i:=by rw [List.length_take];omega
 refine ⟨a,k,by rw [hl],by omega,g2,g3,?_⟩
 rcases g4 with g4|⟨b,o,rfl,h1,h2,g4⟩
 ·left;rw [g4];simp
 ·refine .inr ⟨b,o,rfl,h1,h2,fun j hj=>?_⟩
  obtain ⟨cs,c1,c2,c3⟩:=g4 j (by omega)
  exact ⟨cs,c1,by rw [List.getElem_take];exact c2,c3⟩
theorem kg (lo hi B:Nat) (cs:List Value) (d:Ctl) (nm:ByteArray) (W:World) (hP:gU lo hi W cs d) (hc:W.cell? ⟨B,0,none⟩=some (.string nm)) :
 Calls Tryz.prog 243 #[.agg cs.toArray,.pointer (some ⟨B,0,none⟩)] W fun e W'=>e=.returned (.bool (li d.name nm))∧Ext W W':=by
 obtain ⟨rfl,e1,e2,e3⟩:=hP
 have hB:=World.block_lt_of_cell? W ⟨B,0,none⟩ hc
 have hne:¬B=W.heap.size:=by simp at hB;omega
 unfold li
 go_enter Tryz.func243,Tryz.ntmps243
 go_wp2
 go_ret
 exact ⟨rfl,xw⟩
set_option maxRecDepth 100000 in
set_option maxHeartbeats 1600000 in
theorem lp (lo hi:Nat) (v:Value) (l:List Ctl) (w:World) (h:nM lo hi w v l) :
 Calls Tryz.prog 167 #[v] w fun e w'=>e=.returned (.bool (kl l))∧Ext w w':=by
 have hV:=h
 obtain ⟨a,k,rfl,g1,g2,g3,g4⟩:=h
 unfold maxLen at g2
 cases h1:inR (l.length:Int) 1 6
 ·have H1:=Lib.hid h1
  clear h1
  go_enter Tryz.func167,Tryz.ntmps167
  go_wp2_with (go_at_call 100;refine (aL _ _ _ _).mono ?_;rintro e w' ⟨rfl,rfl⟩;rw [H1.out])
  go_ret
  exact ⟨ap (by unfold kl;rw [H1.out];rfl),xw⟩
 ·have H1:=Lib.hid h1
  clear h1
  go_enter Tryz.func167,Tryz.ntmps167
  go_wp2_with (go_at_call 100;refine (aL _ _ _ _).mono ?_;rintro e w' ⟨rfl,rfl⟩;rw [H1.out])
  go_loopw [11] (fun c wr=>∃i:Nat,c=.int .i64 i∧i≤l.length∧(List.range i).all (qT l)=true∧Ext w wr) (fun c _=>l.length - (intOf c).toNat)
  case atStart=>exact ⟨0,rfl,Nat.zero_le _,rfl,xw⟩
  case round=>
   obtain ⟨i,rfl,hi',hok,hx⟩:=hrel
   have HOK:=Lib.hid hok
   clear hok
   by_cases hlt:i<l.length
   ·rcases g4 with g4|⟨b,o,rfl,gb1,gb2,g4⟩
    ·subst g4;simp at hlt
    ·obtain ⟨cs,hl,hP,hc⟩:=g4 i hlt
     have hbad:=vz l i hlt
     have hat:=pA l i hlt
     have hsucc:=bL (qT l) i
     have HV:=hV.keeps gU.keeps (cW.ext hx)
     have HT:=HV.take i (by omega)
     obtain ⟨rfl,e1,e2,e3⟩:=hP
     have q0:=hx.keep (hc 0 _ rfl)
     have q1:=hx.keep (hc 1 _ rfl)
     have q2:=hx.keep (hc 2 _ rfl)
     rw [Nat.add_zero] at q0
     clear g4 hc hV
     have hcb:F0 l[i]=(di l[i].name && (inR l[i].ports 0 3 && inR l[i].kind 0 2)):=rfl
     generalize hn:di l[i].name=n1 at hcb
     generalize hp2:inR l[i].ports 0 3=n2 at hcb
     generalize hp3:inR l[i].kind 0 2=n3 at hcb
     have hfr:vw l i l[i] = !((l.take i).any (fun d=>li d.name l[i].name)):=rfl
     generalize hp4:(l.take i).any (fun d=>li d.name l[i].name)=n4 at hfr
     have HA:=Lib.hid hat
     have HC:=Lib.hid hcb
     have HF:=Lib.hid hfr
     have HS:=Lib.hid hsucc
     have H2:=Lib.hid hp2
     have H3:=Lib.hid hp3
     have H4:=Lib.hid hp4
     clear hat hcb hfr hsucc hp2 hp3 hp4
     go_wp2_with fail
     refine (d9 _ _ e1).mono ?_
     rintro e y ⟨rfl,hb⟩
     rw [hn]
     clear hn
     have p0:=hb.keep (p:=⟨wr.heap.size,0,none⟩) (v:=.string l[i].name) (by simp)
     have p1:=hb.keep (p:=⟨wr.heap.size,1,none⟩) (v:=.int .i64 l[i].ports) (by simp)
     have p2:=hb.keep (p:=⟨wr.heap.size,2,none⟩) (v:=.int .i64 l[i].kind) (by simp)
     have hy:Ext wr y:=xw
     have HT':=HT.keeps gU.keeps (cW.ext hy)
     have hbad':n1=false∨n2=false∨n3=false∨n4=true→kl l=false:=fun hh=>hbad (by rw [HA.out,HC.out,HF.out];rcases hh with rfl|rfl|rfl|rfl <;> simp)
     cases n1
     ·have HB:=Lib.hid (hbad' (.inl rfl))
      go_wp2
      go_ret
      exact ⟨ap HB.out.symm,xw⟩
     ·cases n2
      ·have HB:=Lib.hid (hbad' (.inr (.inl rfl)))
       go_wp2_with (go_at_call 100;refine (aL _ _ _ _).mono ?_;rintro e w' ⟨rfl,rfl⟩;rw [H2.out])
       go_ret
       exact ⟨ap HB.out.symm,xw⟩
      ·cases n3
       ·have HB:=Lib.hid (hbad' (.inr (.inr (.inl rfl))))
        go_wp2_with (go_at_call 100;refine (aL _ _ _ _).mono ?_;rintro e w' ⟨rfl,rfl⟩;first|rw [H2.out]|rw [H3.out])
        go_ret
        exact ⟨ap HB.out.symm,xw⟩
       ·have hHB:=Lib.hid (fun h4=>hbad' (.inr (.inr (.inr h4))))
        have eg:∀args w,(callFunc 243 args).run Tryz.prog w=.ok (.enter 243 args) w:=enters_of Tryz.func243 (by kernel_rfl) rfl
        have HCF:=cU lo hi (fun d=>li d.name l[i].name) 243 #[.pointer (some ⟨wr.heap.size,0,none⟩)] _ _ y HT' eg (fun j hj cs W hW hPW=>kg lo hi wr.heap.size cs _ l[i].name W hPW (hW.keep p0))
        rw [H4.out] at HCF
        clear hbad hbad' eg
        cases n4
        ·go_wp2_with (first|(go_at_call 100;refine (aL _ _ _ _).mono ?_;rintro e w' ⟨rfl,rfl⟩;first|rw [H2.out]|rw [H3.out])|(go_at_call 242;refine HCF.mono ?_;rintro e y2 ⟨rfl,hb2⟩))
         go_roundw
         case rel=>exact ⟨i+1,rfl,by omega,by rw [HS.out,HOK.out,HA.out,HC.out,HF.out];rfl,xw⟩
         ·simp only [intOf];omega
        ·have HB:=Lib.hid (hHB.out rfl)
         go_wp2_with (first|(go_at_call 100;refine (aL _ _ _ _).mono ?_;rintro e w' ⟨rfl,rfl⟩;first|rw [H2.out]|rw [H3.out])|(go_at_call 242;refine HCF.mono ?_;rintro e y2 ⟨rfl,hb2⟩))
         go_ret
         exact ⟨ap HB.out.symm,xw⟩
   ·go_wp2
    go_ret
    have e:i=l.length:=by omega
    subst e
    exact ⟨ap (by unfold kl;rw [H1.out,HOK.out];rfl),xw⟩
set_option maxRecDepth 100000 in
set_option maxHeartbeats 1600000 in
theorem sv (lo hi:Nat) (v:Value) (l:List Ctl) (w:World) (h:nM lo hi w v l) :
 Calls Tryz.prog 128 #[v] w fun e w'=>e=.returned (.bool (kl l))∧Ext w w':=by
 obtain ⟨a,k,rfl,g1,g2,g3,g4⟩:=h
 unfold maxLen at g2
 go_enter Tryz.func128,Tryz.ntmps128
 go_wp2
 go_loopw [3] (fun c wr=>∃i:Nat,c=.int .i64 i∧i≤l.length∧(List.range i).all (qT l)=true∧Ext w wr) (fun c _=>l.length - (intOf c).toNat)
 case atStart=>exact ⟨0,rfl,Nat.zero_le _,rfl,xw⟩
 case round=>
  obtain ⟨i,rfl,hi',hok,hx⟩:=hrel
  have HOK:=Lib.hid hok
  clear hok
  by_cases hlt:i<l.length
  ·rcases g4 with g4|⟨b,o,rfl,gb1,gb2,g4⟩
   ·subst g4;simp at hlt
   ·have hbad:=vz l i hlt
    have hat:=pA l i hlt
    have hsucc:=bL (qT l) i
    obtain ⟨cs,hl,hP,hc⟩:=g4 i hlt
    obtain ⟨rfl,e1,e2,e3⟩:=hP
    have q0:=hx.keep (hc 0 _ rfl)
    have q1:=hx.keep (hc 1 _ rfl)
    have q2:=hx.keep (hc 2 _ rfl)
    rw [Nat.add_zero] at q0
    clear hc
    have hcb:F0 l[i]=(di l[i].name && (inR l[i].ports 0 3 && inR l[i].kind 0 2)):=rfl
    generalize hn:di l[i].name=n1 at hcb
    generalize hp2:inR l[i].ports 0 3=n2 at hcb
    generalize hp3:inR l[i].kind 0 2=n3 at hcb
    have hfr:vw l i l[i] = !((l.take i).any (fun d=>li d.name l[i].name)):=rfl
    generalize hp4:(l.take i).any (fun d=>li d.name l[i].name)=n4 at hfr
    have HA:=Lib.hid hat
    have HC:=Lib.hid hcb
    have HF:=Lib.hid hfr
    have HS:=Lib.hid hsucc
    have H2:=Lib.hid hp2
    have H3:=Lib.hid hp3
    have H4:=Lib.hid hp4
    clear hat hcb hfr hsucc hp2 hp3 hp4
    have hbad':n1=false∨n2=false∨n3=false∨n4=true→kl l=false:=fun hh=>hbad (by rw [HA.out,HC.out,HF.out];rcases hh with rfl|rfl|rfl|rfl <;> simp)
    go_wp2_with fail
    refine (kU _ _ e1).mono ?_
    rintro e y ⟨rfl,hb⟩
    rw [hn]
    clear hn
    replace q0:=hb.keep q0
    replace q1:=hb.keep q1
    replace q2:=hb.keep q2
    have hy:=hx.trans hb
    cases n1
    ·have HB:=Lib.hid (hbad' (.inl rfl))
     go_wp2
     go_ret
     exact ⟨ap HB.out.symm,xw⟩
    ·cases n2
     ·have HB:=Lib.hid (hbad' (.inr (.inl rfl)))
      go_wp2_with (go_at_call 90;refine (gE _ _ _ _).mono ?_;rintro e w' ⟨rfl,rfl⟩;rw [H2.out])
      go_ret
      exact ⟨ap HB.out.symm,xw⟩
     ·cases n3
      ·have HB:=Lib.hid (hbad' (.inr (.inr (.inl rfl))))
       go_wp2_with (go_at_call 90;refine (gE _ _ _ _).mono ?_;rintro e w' ⟨rfl,rfl⟩;first|rw [H2.out]|rw [H3.out])
       go_ret
       exact ⟨ap HB.out.symm,xw⟩
      ·have hHB:=Lib.hid (fun h4=>hbad' (.inr (.inr (.inr h4))))
       clear hbad hbad'
       go_wp2_with (go_at_call 90;refine (gE _ _ _ _).mono ?_;rintro e w' ⟨rfl,rfl⟩;first|rw [H2.out]|rw [H3.out])
       go_loopw [4] (fun c wz=>∃j:Nat,c=.int .i64 j∧j≤i∧(l.take j).any (fun d=>li d.name l[i].name)=false∧Ext y wz) (fun c _=>i - (intOf c).toNat)
       case atStart=>exact ⟨0,rfl,Nat.zero_le _,rfl,Ext.refl _⟩
       case round=>
        obtain ⟨j,rfl,hj',hno,hxz⟩:=hrel
        have HNO:=Lib.hid hno
        clear hno
        by_cases hji:j<i
        ·obtain ⟨ds,hdl,hD,hd⟩:=g4 j (by omega)
         obtain ⟨rfl,d1,d2,d3⟩:=hD
         have r0:=hxz.keep (hy.keep (hd 0 _ rfl))
         rw [Nat.add_zero] at r0
         have s0:=hxz.keep q0
         have hats:=Lib.hid (d7 (fun d:Ctl=>li d.name l[i].name) l j (by omega))
         have hany:li l[j].name l[i].name=true→n4=true:=fun hh=>by
          rw [← H4.out]
          refine oQ _ _ j (by rw [List.length_take];omega) ?_
          rw [List.getElem_take];exact hh
         have HANY:=Lib.hid hany
         clear hany hd
         have hse:li l[j].name l[i].name=(l[j].name.toList == l[i].name.toList):=rfl
         cases hst:(l[j].name.toList == l[i].name.toList)
         ·rw [hst] at hse
          have HSE:=Lib.hid hse
          clear hse
          go_wp2_with (go_quiet (fail))
          go_roundw
          case rel=>exact ⟨j+1,rfl,by omega,by rw [hats.out,HNO.out];exact HSE.out,xw⟩
          ·simp only [intOf];omega
         ·rw [hst] at hse
          have HB:=Lib.hid (hHB.out (HANY.out hse))
          clear hse
          go_wp2_with (go_quiet (fail))
          go_ret
          exact ⟨ap HB.out.symm,xw⟩
        ·have e:j=i:=by omega
         subst e
         have hn4:n4=false:=by rw [← H4.out];exact HNO.out
         subst hn4
         go_wp2
         go_roundw
         case rel=>exact ⟨j+1,rfl,by omega,by rw [HS.out,HOK.out,HA.out,HC.out,HF.out];rfl,xw⟩
         ·simp only [intOf];omega
  ·have e:i=l.length:=by omega
   subst e
   go_wp2_with (go_at_call 90;refine (gE _ _ _ _).mono ?_;rintro e w' ⟨rfl,rfl⟩)
   go_ret
   exact ⟨ap (by unfold kl;rw [HOK.out,Bool.and_true]),xw⟩
end Go.Proofs.YtacafmejcdgboaaGreatDoor
namespace Go.Proofs.YtacafmejcdgboaaGreatDoor
open Go.RowKit
set_option linter.unusedVariables false
set_option linter.unusedSimpArgs false
attribute [local irreducible] inR di
end Go.Proofs.YtacafmejcdgboaaGreatDoor
namespace Go.Proofs.YtacafmejcdgboaaGreatDoor
open Go.RowKit
set_option linter.unusedVariables false
set_option linter.unusedSimpArgs false
attribute [local irreducible] inR di kl
end Go.Proofs.YtacafmejcdgboaaGreatDoor
namespace Go.Proofs.YtacafmejcdgboaaGreatDoor
open Go.RowKit
set_option linter.unusedVariables false
set_option linter.unusedSimpArgs false
attribute [local irreducible] inR di kl
theorem iT {α:Type} (p:α→Bool) (xs:List α) (i:Nat) (h:i<xs.length):(xs.take (i+1)).all p=((xs.take i).all p && p xs[i]):=by
 rw [List.take_succ_eq_append_getElem h,List.all_append,List.all_cons,List.all_nil,Bool.and_true]
theorem sR {α:Type} (p:α→Bool) (xs:List α) (i:Nat) (h:i<xs.length) (hp:p xs[i]=false):xs.all p=false:=by
 rw [List.all_eq_false];exact ⟨_,List.getElem_mem h,by simp [hp]⟩
end Go.Proofs.YtacafmejcdgboaaGreatDoor
namespace Go.Proofs.YtacafmejcdgboaaGreatDoor
open Go.RowKit
set_option linter.unusedVariables false
set_option linter.unusedSimpArgs false
attribute [local irreducible] inR di kl
end Go.Proofs.YtacafmejcdgboaaGreatDoor
namespace Go.Proofs.YtacafmejcdgboaaGreatDoor
open Go.RowKit
set_option linter.unusedVariables false
set_option linter.unusedSimpArgs false
theorem bH (w:World) (cs:List Value) (T:TypeId):∃W0,w.alloc (.cells cs.toArray T)=W0∧dA W0 w.heap.size cs∧Ext w W0∧W0.heap.size=w.heap.size+1:=
 ⟨_,rfl,dA.new w T cs _ rfl,Ext.alloc (Ext.refl w) _,by simp⟩
theorem iv {α:Type} (p:α→Bool) (l:List α):l.any (fun x=>!(p x)) = !(l.all p):=by
 induction l with
 | nil=>rfl
 | cons x l ih=>simp only [List.any_cons,List.all_cons,ih];cases p x <;> simp
theorem cA {n a b:Int} (h:inR n a b=true):a≤n∧n≤b:=by unfold inR at h;simpa using h
theorem CF {l:List Ctl} (h:kl l=true):1≤l.length∧l.length≤6:=by
 unfold kl at h
 have:=cA (Bool.and_eq_true_iff.1 h).1
 omega
attribute [local irreducible] inR di kl
end Go.Proofs.YtacafmejcdgboaaGreatDoor
namespace Go.Proofs.YtacafmejcdgboaaGreatDoor
open Go.RowKit
set_option linter.unusedVariables false
set_option linter.unusedSimpArgs false
theorem Bp {w w':World} (h:w.grownBy w' none):Ext w w':=⟨h.os,h.tape,h.output,h.size,fun k hk=>h.block k hk (by simp)⟩
theorem qg:(Tryz.prog.info? 3).map (fun i=>(i.zero,i.size,i.bytes))=some (some (.int .i64 0),1,8):=by kernel_rfl
theorem tT:(Tryz.prog.info? 9).map (fun i=>(i.zero,i.size,i.bytes))=some (some (.string ⟨#[]⟩),1,16):=by kernel_rfl
theorem Cq:(Tryz.prog.info? 261).map (fun i=>(i.zero,i.size,i.bytes))=some (some (.agg #[.int .i64 0,.int .i64 0]),2,16):=by kernel_rfl
end Go.Proofs.YtacafmejcdgboaaGreatDoor
namespace Go.Proofs.YtacafmejcdgboaaGreatDoor
open Go.RowKit
set_option linter.unusedVariables false
set_option linter.unusedSimpArgs false
attribute [local irreducible] inR di kl
end Go.Proofs.YtacafmejcdgboaaGreatDoor
namespace Go.Proofs.YtacafmejcdgboaaGreatDoor
open Go.RowKit
set_option linter.unusedVariables false
set_option linter.unusedSimpArgs false
def cT (a b:ByteArray):Bool:=Op.bytesLess a.toList b.toList
theorem jK:∀x y:List UInt8,(Op.bytesLess x y || (x == y)) = !(Op.bytesLess y x):=by
 intro x
 induction x with
 | nil=>intro y;cases y <;> simp [Op.bytesLess]
 | cons a x ih=>
  intro y
  cases y with
  | nil=>simp [Op.bytesLess]
  | cons b y=>
   simp only [Op.bytesLess]
   have hih:=ih y
   by_cases h1:a<b
   ·have h2:¬b<a:=by simp only [UInt8.lt_iff_toNat_lt] at *;omega
    have h3:¬b=a:=by intro h;subst h;exact h2 h1
    simp [h1,h2,h3]
   ·by_cases h2:b<a
    ·have h3:¬a=b:=by intro h;subst h;exact h1 h2
     simp [h1,h2,h3]
    ·have h3:a=b:=by
      simp only [UInt8.lt_iff_toNat_lt] at *
      exact UInt8.toNat_inj.1 (by omega)
     subst h3
     simp [h1]
     simpa using hih
theorem Ay (a b:ByteArray):(Op.bytesLess a.toList b.toList || (a.toList == b.toList)) = !(cT b a):=jK _ _
def zo (l:List ByteArray) (i:Nat):Bool:=match l[i]? with|none=>true|some s=>di s && (decide (i=0) || cT (l.getD (i - 1) ⟨#[]⟩) s)
def de (l:List ByteArray):Bool:=(List.range l.length).all (zo l) && decide ((l.length:Int)≤16)
theorem pq (l:List ByteArray) (i:Nat) (h:i<l.length):zo l i=(di l[i] && (decide (i=0) || cT (l.getD (i - 1) ⟨#[]⟩) l[i])):=by
 unfold zo;rw [List.getElem?_eq_getElem h]
theorem pg (l:List ByteArray) (i:Nat) (h:i<l.length) (hb:zo l i=false):de l=false:=by
 unfold de;rw [aK _ _ i h hb];rfl
attribute [local irreducible] inR di cT
set_option maxHeartbeats 1600000 in
theorem ju (lo hi:Nat) (v:Value) (l:List ByteArray) (w:World) (h:yO lo hi w v l) :
 Calls Tryz.prog 168 #[v] w fun e w'=>e=.returned (.bool (de l))∧Ext w w':=by
 obtain ⟨a,k,rfl,g1,g2,g3,g4⟩:=h
 unfold maxLen at g2
 go_enter Tryz.func168,Tryz.ntmps168
 go_wp2
 go_loopw [7] (fun c wr=>∃i:Nat,c=.int .i64 i∧i≤l.length∧(List.range i).all (zo l)=true∧Ext w wr) (fun c _=>l.length - (intOf c).toNat)
 case atStart=>exact ⟨0,rfl,Nat.zero_le _,rfl,xw⟩
 case round=>
  obtain ⟨i,rfl,hi',hok,hx⟩:=hrel
  have HOK:=Lib.hid hok
  clear hok
  by_cases hlt:i<l.length
  ·rcases g4 with g4|⟨b,o,rfl,gb1,gb2,g4⟩
   ·subst g4;simp at hlt
   obtain ⟨cs,hl,⟨rfl,e1⟩,hc⟩:=g4 i hlt
   have q0:=hx.keep (hc 0 _ rfl)
   rw [Nat.mul_one,Nat.add_zero] at q0
   clear hc
   have hbad:=pg l i hlt
   have HA:=Lib.hid (pq l i hlt)
   have HS:=Lib.hid (bL (zo l) i)
   by_cases hn:i=0
   ·subst hn
    simp only [Nat.add_zero] at q0
    cases ha:di l[0]
    have Ha:=Lib.hid ha;clear ha
    have HB:=Lib.hid (hbad (by rw [HA.out];simp [Ha.out]))
    clear hbad
    have isF:=trivial
    rotate_left
    have Ha:=Lib.hid ha;clear ha
    have HG:=Lib.hid (show zo l 0=true by rw [HA.out];simp [Ha.out])
    clear hbad
    have isP:=trivial
    all_goals go_wp2_with (first|(go_at_call 241;(refine (d9 _ _ e1).mono ?_);rintro e y ⟨rfl,hb⟩;rw [Ha.out]))
    all_goals first|(have:=isF;go_ret;exact ⟨ap HB.out.symm,xw⟩)|(have:=isP;go_roundw;(case rel=>exact ⟨1,rfl,by omega,by rw [HS.out,HOK.out,HG.out];rfl,xw⟩);· simp only [intOf];omega)
   ·obtain ⟨j,rfl⟩:∃j,i=j+1:=⟨i - 1,by omega⟩
    obtain ⟨ds,hdl,⟨rfl,d1⟩,hd⟩:=g4 j (by omega)
    have r0:=hx.keep (hd 0 _ rfl)
    rw [Nat.mul_one,Nat.add_zero] at r0
    have hg:l.getD j ⟨#[]⟩=l[j]:=by rw [List.getD_eq_getElem?_getD,List.getElem?_eq_getElem (by omega)];rfl
    have HG:=Lib.hid hg
    have HLE:=Lib.hid (Ay l[j+1] l[j])
    have jw:=IntWalk.i64_in (((j+1:Nat):Int) - 1) (by omega)
    have je:((j+1:Nat):Int) - 1=j:=by omega
    clear hd hg g4
    cases hle:cT l[j] l[j+1]
    ·have HB:=Lib.hid (hbad (by rw [HA.out,show j+1 - 1=j by omega,HG.out,hle];simp))
     have hz:=HLE.out
     rw [hle] at hz
     have HZ:=Lib.hid hz
     clear hbad hle
     cases ha:di l[j+1]
     ·have Ha:=Lib.hid ha
      clear ha hz
      go_wp2_with (go_at_call 241;refine (d9 _ _ e1).mono ?_;rintro e y ⟨rfl,hb⟩;rw [Ha.out])
      go_ret
      exact ⟨ap HB.out.symm,xw⟩
     ·have Ha:=Lib.hid ha
      clear ha
      go_wp2_with (go_at_call 241;refine (d9 _ _ e1).mono ?_;rintro e y ⟨rfl,hb⟩;rw [Ha.out];replace r0:=hb.keep r0)
      all_goals first
       | (go_ret;exact ⟨ap HB.out.symm,xw⟩)
       | (exfalso;have hh:=HZ.out;simp_all;done)
    ·have hz:=HLE.out
     rw [hle] at hz
     have HL:=Lib.hid hle
     have HZ:=Lib.hid hz
     clear hle
     cases ha:di l[j+1]
     ·have HB:=Lib.hid (hbad (by rw [HA.out,ha];rfl))
      have Ha:=Lib.hid ha
      clear ha hbad hz
      go_wp2_with (go_at_call 241;refine (d9 _ _ e1).mono ?_;rintro e y ⟨rfl,hb⟩;rw [Ha.out])
      go_ret
      exact ⟨ap HB.out.symm,xw⟩
     ·have HG2:=Lib.hid (show zo l (j+1)=true by rw [HA.out,show j+1 - 1=j by omega,HG.out,ha,HL.out];simp)
      have Ha:=Lib.hid ha
      clear ha hbad
      go_wp2_with (go_at_call 241;refine (d9 _ _ e1).mono ?_;rintro e y ⟨rfl,hb⟩;rw [Ha.out];replace r0:=hb.keep r0)
      all_goals first
       | (exfalso;have hh:=HZ.out;simp_all;done)
       | (go_roundw
          case rel=>exact ⟨j+1+1,rfl,by omega,by rw [HS.out,HOK.out,HG2.out];rfl,xw⟩
          case measure=>simp only [intOf];omega)
  ·have e:i=l.length:=by omega
   subst e
   have HL:=Lib.hid (show de l=decide ((l.length:Int)≤16) by unfold de;rw [HOK.out];rfl)
   go_wp2
   go_ret
   exact ⟨ap HL.out.symm,xw⟩
end Go.Proofs.YtacafmejcdgboaaGreatDoor
namespace Go.Proofs.YtacafmejcdgboaaGreatDoor
open Go.RowKit
set_option linter.unusedVariables false
set_option linter.unusedSimpArgs false
def qD (sig:List Ctl) (k:Int):Ctl:=sig.getD k.toNat ⟨⟨#[]⟩,0,0⟩
def cI (b:Big) (k:Int):Nd:=b.nodes.getD k.toNat ⟨0,0,[]⟩
def cR (sig:List Ctl) (b:Big) (p below:Int):Bool:=if p<0 then decide (-b.roots≤p) else decide (p<below) && !(decide ((qD sig (cI b p).control).kind=2))
def dy (b:Big) (l:Int):Bool:=inR l 0 (b.edges+b.outer.length - 1)
def z6 (sig:List Ctl) (b:Big) (n:Int):Prop:=∀i (h:i<b.nodes.length),(i:Int)<n→0≤b.nodes[i].control∧b.nodes[i].control<sig.length
theorem al (b:Big) (i:Nat) (h:i<b.nodes.length):cI b i=b.nodes[i]:=by
 unfold cI;rw [Int.toNat_natCast,List.getD_eq_getElem?_getD,List.getElem?_eq_getElem h];rfl
theorem iJ (sig:List Ctl) (i:Nat) (h:i<sig.length):qD sig i=sig[i]:=by
 unfold qD;rw [Int.toNat_natCast,List.getD_eq_getElem?_getD,List.getElem?_eq_getElem h];rfl
theorem oP {sig:List Ctl} {b:Big} {p below:Int} (h:p<0):cR sig b p below=decide (-b.roots≤p):=if_pos h
theorem t6 {sig:List Ctl} {b:Big} {p below:Int} (h:p<0) (h2:I64 p):inR (-1 - p) 0 (b.roots - 1)=cR sig b p below:=by
 rw [oP h];unfold inR;rw [Bool.eq_iff_iff];simp;omega
theorem wn {sig:List Ctl} {b:Big} {p below:Int} (h:¬p<0):cR sig b p below=(decide (p<below) && !(decide ((qD sig (cI b p).control).kind=2))):=if_neg h
theorem we (xs:List Wr) (i:Nat) (h:i<xs.length):(xs.take (i+1)).map Wr.name=(xs.take i).map Wr.name++[xs[i].name]:=by
 rw [List.take_succ_eq_append_getElem h,List.map_append];rfl
theorem Bn {α β:Type} (f:α→β) (xs:List α) (i:Nat) (h:i≤xs.length):((xs.take i).map f).length=i:=by simp;omega
attribute [local irreducible] inR di cT
set_option maxRecDepth 100000 in
set_option maxHeartbeats 1600000 in
theorem iu (lo hi:Nat) (cs:List Value) (b:Big) (w:World) (h:dw lo hi w cs b) (hlen:b.inner.length≤1048576) :
 Calls Tryz.prog 169 #[.agg cs.toArray] w fun e w'=>∃v,e=.returned v∧SlV 1 dV w.heap.size w'.heap.size w' v (b.inner.map Wr.name)∧Ext w w':=by
 obtain ⟨v1,v2,v4,v5,rfl,r1,r2,hN,hS,hO,hI⟩:=h
 obtain ⟨a5,k5,rfl,g1,g2,g3,g4⟩:=hI
 unfold maxLen at g2
 obtain ⟨i0,hi0,hz0,hz1,hz2⟩:=info_parts tT
 obtain ⟨W0,hW0,hbx,hx0,hz⟩:=bH w [.int .i64 b.roots,v1,v2,.int .i64 b.edges,v4,.slice a5 b.inner.length k5] 46
 have p5:=(hbx 5 _ rfl).1
 have hrow0:fP 1 dV 9 W0.heap.size (W0.alloc (.cells #[] 9)) (.slice (some ⟨W0.heap.size,0,none⟩) 0 0) []:=fP.made (Nat.le_refl _)
 have hz':w.heap.size<W0.heap.size:=by omega
 clear hz
 go_enter Tryz.func169,Tryz.ntmps169
 go_wp2
 go_loopw [10,3] (fun c v wr=>∃i:Nat,c=.int .i64 i∧i≤b.inner.length∧fP 1 dV 9 W0.heap.size wr v ((b.inner.take i).map Wr.name)∧Ext W0 wr) (fun c _ _=>b.inner.length - (intOf c).toNat)
 case atStart=>exact ⟨0,rfl,Nat.zero_le _,by simpa using hrow0,xw⟩
 case round=>
  obtain ⟨i,rfl,hi',hrow,hx⟩:=hrel
  replace p5:=hx.keep p5
  have hX:Ext w wr:=xw
  by_cases hlt:i<b.inner.length
  ·rcases g4 with g4|⟨b',o,rfl,gb1,gb2,g4⟩
   ·rw [g4] at hlt;simp at hlt
   obtain ⟨cs,hl,⟨rfl,e1,e2⟩,hc⟩:=g4 i hlt
   have q0:=hX.keep (hc 0 _ rfl)
   have q1:=hX.keep (hc 1 _ rfl)
   rw [Nat.add_zero] at q0
   clear hc g4
   have HT:=Lib.hid (we b.inner i hlt)
   have HL:=Lib.hid (Bn Wr.name b.inner i hi')
   have hsz:=Below.size hx
   go_wp2_with (at_builtin;refine lO dV.keeps rfl (.tmp 14) (.tmp 17) 26 rfl (W0.heap.size) 9 i0 _ 16 Tryz.underlying26 hi0 hz0 hz1 hz2 rfl (by decide) _ _ (by rfl) (hrow.ext dV.keeps xw) ⟨wr.heap.size+1,0,none⟩ 1 [.string b.inner[i].name] rfl rfl (ig (by simp)) (by simp [Value.oneCell']) (W0.heap.size) (W0.heap.size) (Nat.le_refl _) (by first|omega|(simp;omega)) (fun g hg=>.inr (hrow.block g hg).1) (b.inner[i].name) ⟨rfl,e1⟩ (by first|omega|(simp;omega)) (by decide) (by first|omega|(simp;omega)) ?_;intro v3 w3 row3 ext3)
   have hx3:=ext3 W0 xw (Nat.le_refl _)
   go_roundw
   case rel=>exact ⟨i+1,rfl,by omega,by rw [HT.out];exact row3,xw⟩
   ·simp only [intOf];omega
  ·have HT:=Lib.hid (show b.inner.take i=b.inner from List.take_of_length_le (by omega))
   go_wp2
   go_ret
   rw [HT.out] at hrow
   exact ⟨_,rfl,hrow.toSlV dV.widens (by omega),hX⟩
theorem fX (lo hi:Nat) (cs:List Value) (b:Big) (l:Int) (w:World) (h:dw lo hi w cs b) (he:inR b.edges 0 8=true) (ho:b.outer.length≤1000) :
 Calls Tryz.prog 172 #[.agg cs.toArray,.int .i64 l] w fun e w'=>e=.returned (.bool (dy b l))∧Ext w w':=by
 obtain ⟨v1,v2,v4,v5,rfl,r1,r2,hN,hS,hO,hI⟩:=h
 obtain ⟨a4,k4,rfl,g1,g2,g3,g4⟩:=hO
 have he':=cA he
 unfold maxLen at g2
 clear he
 obtain ⟨W0,hW0,hbx,hx0,hz⟩:=bH w [.int .i64 b.roots,v1,v2,.int .i64 b.edges,.slice a4 b.outer.length k4,v5] 46
 have p3:=(hbx 3 _ rfl).1
 have p4:=(hbx 4 _ rfl).1
 clear hz g4 hbx
 go_enter Tryz.func172,Tryz.ntmps172
 go_wp2_with (go_at_call 100;refine (aL _ _ _ _).mono ?_;rintro e y ⟨rfl,rfl⟩)
 go_ret
 exact ⟨rfl,hx0⟩
set_option maxHeartbeats 800000 in
theorem bP (lo hi lo' hi':Nat) (v:Value) (sig:List Ctl) (cs:List Value) (b:Big) (p below:Int) (w:World) (hV:nM lo hi w v sig) (h:dw lo' hi' w cs b) (hp:I64 p) (hr:inR b.roots 0 4=true) (hb0:below≤b.nodes.length) (hc:z6 sig b below) :
 Calls Tryz.prog 170 #[.agg cs.toArray,v,.int .i64 p,.int .i64 below] w fun e w'=>e=.returned (.bool (cR sig b p below))∧Ext w w':=by
 obtain ⟨v1,v2,v4,v5,rfl,r1,r2,hN,hS,hO,hI⟩:=h
 obtain ⟨a1,k1,rfl,g1,g2,g3,g4⟩:=hN
 obtain ⟨a,k,rfl,m1,m2,m3,m4⟩:=hV
 have hr':=cA hr
 unfold maxLen at g2 m2
 clear hr
 obtain ⟨W0,hW0,hbx,hx0,hz⟩:=bH w [.int .i64 b.roots,.slice a1 b.nodes.length k1,v2,.int .i64 b.edges,v4,v5] 46
 have p0:=(hbx 0 _ rfl).1
 have p1:=(hbx 1 _ rfl).1
 clear hz hbx
 by_cases hn:p<0
 ·have HU:=Lib.hid (oP (sig:=sig) (b:=b) (below:=below) hn)
  go_enter Tryz.func170,Tryz.ntmps170
  go_wp2
  go_ret
  exact ⟨ap HU.out.symm,hx0⟩
 ·have HU:=Lib.hid (wn (sig:=sig) (b:=b) (below:=below) hn)
  by_cases hlt:p<below
  ·obtain ⟨n,rfl⟩:=Int.eq_ofNat_of_zero_le (show 0≤p by omega)
   have hnl:n<b.nodes.length:=by omega
   obtain ⟨c1,c2⟩:=hc n hnl hlt
   rcases g4 with g4|⟨b1,o1,rfl,gb1,gb2,g4⟩
   ·rw [g4] at hnl;simp at hnl
   obtain ⟨cs,hl,⟨nv,rfl,e1,e2,e3⟩,hcs⟩:=g4 n hnl
   have q0:=hx0.keep (hcs 0 _ rfl)
   rw [Nat.add_zero] at q0
   obtain ⟨m,hm⟩:=Int.eq_ofNat_of_zero_le c1
   have hml:m<sig.length:=by omega
   rcases m4 with m4|⟨b2,o2,rfl,mb1,mb2,m4⟩
   ·rw [m4] at hml;simp at hml
   obtain ⟨ds,dl,⟨rfl,d1,d2,d3⟩,hds⟩:=m4 m hml
   have s2:=hx0.keep (hds 2 _ rfl)
   have HK:=Lib.hid (show qD sig (cI b (n:Int)).control=sig[m] by rw [al b n hnl,hm,iJ sig m hml])
   rw [hm] at q0
   clear hm hcs hds g4 m4 c1 c2 hc
   have dd:decide ((n:Int)<below)=true:=decide_eq_true hlt
   go_enter Tryz.func170,Tryz.ntmps170
   go_wp2
   go_ret
   exact ⟨ap (by rw [HU.out,HK.out,dd];by_cases hh:sig[m].kind=2 <;> simp [hh]),hx0⟩
  ·have dd:decide (p<below)=false:=decide_eq_false hlt
   go_enter Tryz.func170,Tryz.ntmps170
   go_wp2
   go_ret
   exact ⟨ap (by rw [HU.out,dd];rfl),hx0⟩
theorem g9 (lo hi B:Nat) (cs:List Value) (b:Big) (l:Int) (w:World) (h:dw lo hi w cs b) (he:inR b.edges 0 8=true) (ho:b.outer.length≤1000) (hbx:∀j u,cs[j]? = some u→w.cell? ⟨B,j,none⟩=some u) :
 Calls Tryz.prog 171 #[.int .i64 l,.pointer (some ⟨B,0,none⟩)] w fun e w'=>e=.returned (.bool (!(dy b l)))∧Ext w w':=by
 have hB:=h
 obtain ⟨v1,v2,v4,v5,rfl,r1,r2,hN,hS,hO,hI⟩:=h
 have p0:=hbx 0 _ rfl
 have p1:=hbx 1 _ rfl
 have p2:=hbx 2 _ rfl
 have p3:=hbx 3 _ rfl
 have p4:=hbx 4 _ rfl
 have p5:=hbx 5 _ rfl
 clear hbx
 go_enter Tryz.func171,Tryz.ntmps171
 go_wp2_with (go_at_call 172;refine (fX lo hi [.int .i64 b.roots,v1,v2,.int .i64 b.edges,v4,v5] b l _ hB he ho).mono ?_;rintro e y ⟨rfl,hb⟩)
 go_ret
 exact ⟨rfl,hb⟩
theorem lD (lo hi lo' hi' B B2:Nat) (v:Value) (sig:List Ctl) (cs:List Value) (b:Big) (p:Int) (w:World) (hV:nM lo' hi' w v sig) (h:dw lo hi w cs b) (hp:I64 p) (hr:inR b.roots 0 4=true) (hc:z6 sig b b.nodes.length) (hbx:∀j u,cs[j]? = some u→w.cell? ⟨B,j,none⟩=some u) (hbs:w.cell? ⟨B2,0,none⟩=some v) :
 Calls Tryz.prog 173 #[.int .i64 p,.pointer (some ⟨B,0,none⟩),.pointer (some ⟨B2,0,none⟩)] w fun e w'=>e=.returned (.bool (!(cR sig b p b.nodes.length)))∧Ext w w':=by
 have hB:=h
 have hV':=hV
 obtain ⟨a,k,rfl,m1,m2,m3,m4⟩:=hV
 obtain ⟨v1,v2,v4,v5,rfl,r1,r2,hN,hS,hO,hI⟩:=h
 obtain ⟨a1,k1,rfl,g1,g2,g3,g4⟩:=hN
 have p0:=hbx 0 _ rfl
 have p1:=hbx 1 _ rfl
 have p2:=hbx 2 _ rfl
 have p3:=hbx 3 _ rfl
 have p4:=hbx 4 _ rfl
 have p5:=hbx 5 _ rfl
 unfold maxLen at g2
 clear hbx g4 m4
 go_enter Tryz.func173,Tryz.ntmps173
 go_wp2_with (go_at_call 170;refine (bP lo' hi' lo hi _ sig [.int .i64 b.roots,.slice a1 b.nodes.length k1,v2,.int .i64 b.edges,v4,v5] b p _ _ hV' hB hp hr (by omega) hc).mono ?_;rintro e y ⟨rfl,hb⟩)
 go_ret
 exact ⟨rfl,hb⟩
theorem k7 (lo hi B:Nat) (cs:List Value) (b:Big) (ds:List Value) (x:Wr) (w:World) (h:dw lo hi w cs b) (he:inR b.edges 0 8=true) (ho:b.outer.length≤1000) (hbx:∀j u,cs[j]? = some u→w.cell? ⟨B,j,none⟩=some u) (hx:WrP lo hi w ds x) :
 Calls Tryz.prog 175 #[.agg ds.toArray,.pointer (some ⟨B,0,none⟩)] w fun e w'=>e=.returned (.bool (!(dy b x.link)))∧Ext w w':=by
 have hB:=h
 obtain ⟨v1,v2,v4,v5,rfl,r1,r2,hN,hS,hO,hI⟩:=h
 obtain ⟨rfl,e1,e2⟩:=hx
 obtain ⟨W0,hW0,hbx0,hx0,hz⟩:=bH w [.string x.name,.int .i64 x.link] 153
 have p0:=hx0.keep (hbx 0 _ rfl)
 have p1:=hx0.keep (hbx 1 _ rfl)
 have p2:=hx0.keep (hbx 2 _ rfl)
 have p3:=hx0.keep (hbx 3 _ rfl)
 have p4:=hx0.keep (hbx 4 _ rfl)
 have p5:=hx0.keep (hbx 5 _ rfl)
 have s1:=(hbx0 1 _ rfl).1
 replace hB:=dw.keeps _ _ _ _ _ _ (cW.ext hx0) hB
 clear hbx hbx0 hz
 go_enter Tryz.func175,Tryz.ntmps175
 go_wp2_with (go_at_call 172;refine (fX lo hi [.int .i64 b.roots,v1,v2,.int .i64 b.edges,v4,v5] b x.link _ hB he ho).mono ?_;rintro e y ⟨rfl,hb⟩)
 go_ret
 exact ⟨rfl,hx0.trans hb⟩
end Go.Proofs.YtacafmejcdgboaaGreatDoor
namespace Go.Proofs.YtacafmejcdgboaaGreatDoor
open Go.RowKit
set_option linter.unusedVariables false
set_option linter.unusedSimpArgs false
def fF (sig:List Ctl) (b:Big) (i:Nat):Bool:=match b.nodes[i]? with
 | none=>true
 | some n=>inR n.control 0 ((sig.length:Int) - 1) && (cR sig b n.parent i && (decide ((n.links.length:Int)=(qD sig n.control).ports) && n.links.all (dy b)))
def iN (sig:List Ctl) (b:Big):Bool:=kl sig && (inR b.roots 0 4 && (decide (b.nodes.length≤8) && (decide (b.sites.length≤4) && (inR b.edges 0 8 && (de b.outer && de (b.inner.map Wr.name))))))
def eT (sig:List Ctl) (b:Big) (p:Int):Bool:=cR sig b p b.nodes.length
def go (b:Big) (x:Wr):Bool:=dy b x.link
def aw (sig:List Ctl) (b:Big):Bool:=iN sig b && ((List.range b.nodes.length).all (fF sig b) && (b.sites.all (eT sig b) && b.inner.all (go b)))
theorem lj (sig:List Ctl) (b:Big) (i:Nat) (h:i<b.nodes.length):fF sig b i=(inR (b.nodes[i]).control 0 ((sig.length:Int) - 1) && (cR sig b (b.nodes[i]).parent i && (decide (((b.nodes[i]).links.length:Int)=(qD sig (b.nodes[i]).control).ports) && !((b.nodes[i]).links.any (fun l=>!(dy b l)))))):=by
 unfold fF;rw [List.getElem?_eq_getElem h,iv,Bool.not_not]
theorem mR {sig:List Ctl} {b:Big} {n:Nat} (h:(List.range n).all (fF sig b)=true):z6 sig b n:=by
 intro i hi hn
 have:=List.all_eq_true.1 h i (List.mem_range.2 (by omega))
 rw [lj sig b i hi] at this
 have:=cA (Bool.and_eq_true_iff.1 this).1
 omega
theorem fH {l:List ByteArray} (h:de l=true):l.length≤16:=by
 unfold de at h
 have:=(Bool.and_eq_true_iff.1 h).2
 simp at this;omega
theorem eM {sig:List Ctl} {b:Big} (h:iN sig b=true):kl sig=true∧inR b.roots 0 4=true∧b.nodes.length≤8∧b.sites.length≤4∧inR b.edges 0 8=true∧de b.outer=true∧de (b.inner.map Wr.name)=true:=by
 unfold iN at h
 simp only [Bool.and_eq_true,decide_eq_true_eq] at h
 obtain ⟨a,b,c,d,e,f,g⟩:=h
 exact ⟨a,b,c,d,e,f,g⟩
theorem cZ {sig:List Ctl} {b:Big} (h:aw sig b=true):iN sig b=true∧(List.range b.nodes.length).all (fF sig b)=true∧b.sites.all (eT sig b)=true∧b.inner.all (go b)=true:=by
 unfold aw at h
 simp only [Bool.and_eq_true] at h
 exact h
theorem du {sig:List Ctl} {b:Big} (h:iN sig b=false):aw sig b=false:=by unfold aw;rw [h];rfl
theorem m8 {sig:List Ctl} {b:Big} (i:Nat) (hi:i<b.nodes.length) (h:fF sig b i=false):aw sig b=false:=by unfold aw;rw [aK _ _ i hi h];simp
theorem iR {x y:Bool} (h:x = !y):y = !x:=by cases x <;> cases y <;> simp_all
theorem Ck (sig:List Ctl) (b:Big):b.sites.any (fun p=>!(cR sig b p b.nodes.length)) = !(b.sites.all (eT sig b)):=iv (eT sig b) b.sites
theorem Bq (b:Big):b.inner.any (fun x=>!(dy b x.link)) = !(b.inner.all (go b)):=iv (go b) b.inner
end Go.Proofs.YtacafmejcdgboaaGreatDoor
