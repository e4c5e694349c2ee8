/-
  Proved facts that the law leans on.
-/
import Derived.Test.YtclpbhoekmecjaaGreatDoorZP1
import Derived.Shelf.Strings.Trim
import Derived.Shelf.Small.Utf8
import Derived.Shelf.Small.Bits
import Derived.Shelf.Small.Strs
import Derived.Shelf.Small.Wraps
import Derived.Shelf.Strconv.Itoa0
import Derived.Shelf.Strings.Search1
import Derived.Shelf.Strings.Runes
import Derived.Shelf.Strings.AsciiSet
import Derived.Shelf.Bits.Mul64
import Derived.Shelf.Unicode.DecodeSlow
import Derived.Shelf.Slices.Turned
import Derived.Shelf.Slices.Equal
import Derived.Shelf.Slices.Empties2
import Derived.Test.YtclpbhoekmecjaaGreatDoorProg
import Derived.Test.YtclpbhoekmecjaaGreatDoorRows
import Derived.WalkSpells
import Derived.WalkLawsBesides
import Derived.Deep.DeepMust
import Derived.Lib.SliceRun
import Derived.Shelf.Strings.SlTrimAscii
import Derived.Deep.RegionWith
import Derived.Deep.DrawnRows
namespace Go.Proofs
open Go.Shelf
def Tryz.lays160_ren : Go.Shelf.Ren := ⟨fun | 160 => 237 | 232 => 268 | 231 => 267 | 227 => 269 | 234 => 271 | 233 => 270 | 236 => 273 | 235 => 272 | 228 => 304 | 271 => 307 | 151 => 306 | 197 => 305 | 120 => 327 | 152 => 326 | 260 => 325 | 137 => 333 | 119 => 334 | 224 => 335 | 225 => 336 | 217 => 338 | 266 => 339 | n => n, fun | 9 => 9 | 4 => 4 | 3 => 3 | 5 => 5 | 117 => 258 | 116 => 257 | 0 => 0 | 124 => 261 | 21 => 21 | 105 => 284 | 46 => 216 | 119 => 305 | 139 => 308 | 138 => 307 | n => n, fun | 3 => 0 | 4 => 1 | n => n⟩
theorem Tryz.lays160 : Go.Proofs.Lays.n160 Tryz.prog Tryz.lays160_ren := {
  mixed := by kernel_rfl
  f119 := Tryz.func334.trans (congrArg some (by kernel_rfl))
  f120 := Tryz.func327.trans (congrArg some (by kernel_rfl))
  f137 := Tryz.func333.trans (congrArg some (by kernel_rfl))
  f151 := Tryz.func306.trans (congrArg some (by kernel_rfl))
  f152 := Tryz.func326.trans (congrArg some (by kernel_rfl))
  f160 := Tryz.func237.trans (congrArg some (by kernel_rfl))
  f197 := Tryz.func305.trans (congrArg some (by kernel_rfl))
  f217 := Tryz.func338.trans (congrArg some (by kernel_rfl))
  f224 := Tryz.func335.trans (congrArg some (by kernel_rfl))
  f225 := Tryz.func336.trans (congrArg some (by kernel_rfl))
  f227 := Tryz.func269.trans (congrArg some (by kernel_rfl))
  f228 := Tryz.func304.trans (congrArg some (by kernel_rfl))
  f231 := Tryz.func267.trans (congrArg some (by kernel_rfl))
  f232 := Tryz.func268.trans (congrArg some (by kernel_rfl))
  f233 := Tryz.func270.trans (congrArg some (by kernel_rfl))
  f234 := Tryz.func271.trans (congrArg some (by kernel_rfl))
  f235 := Tryz.func272.trans (congrArg some (by kernel_rfl))
  f236 := Tryz.func273.trans (congrArg some (by kernel_rfl))
  f260 := Tryz.func325.trans (congrArg some (by kernel_rfl))
  f266 := Tryz.func339.trans (congrArg some (by kernel_rfl))
  f271 := Tryz.func307.trans (congrArg some (by kernel_rfl))
  t0 := Tryz.underlying0
  a0 := Tryz.isAgg0
  z0 := Tryz.sizeOf0
  v0 := Tryz.zeroValue0
  t3 := Tryz.underlying3
  a3 := Tryz.isAgg3
  z3 := Tryz.sizeOf3
  v3 := Tryz.zeroValue3
  t4 := Tryz.underlying4
  a4 := Tryz.isAgg4
  z4 := Tryz.sizeOf4
  v4 := Tryz.zeroValue4
  t5 := Tryz.underlying5
  a5 := Tryz.isAgg5
  z5 := Tryz.sizeOf5
  v5 := Tryz.zeroValue5
  t9 := Tryz.underlying9
  a9 := Tryz.isAgg9
  z9 := Tryz.sizeOf9
  v9 := Tryz.zeroValue9
  t21 := Tryz.underlying21
  a21 := Tryz.isAgg21
  z21 := Tryz.sizeOf21
  v21 := Tryz.zeroValue21
  t46 := Tryz.underlying216
  a46 := Tryz.isAgg216
  z46 := Tryz.sizeOf216
  v46 := Tryz.zeroValue216
  t105 := Tryz.underlying284
  a105 := Tryz.isAgg284
  z105 := Tryz.sizeOf284
  v105 := Tryz.zeroValue284
  t116 := Tryz.underlying257
  a116 := Tryz.isAgg257
  z116 := Tryz.sizeOf257
  t117 := Tryz.underlying258
  a117 := Tryz.isAgg258
  z117 := Tryz.sizeOf258
  v117 := Tryz.zeroValue258
  t119 := Tryz.underlying305
  a119 := Tryz.isAgg305
  z119 := Tryz.sizeOf305
  t124 := Tryz.underlying261
  a124 := Tryz.isAgg261
  z124 := Tryz.sizeOf261
  v124 := Tryz.zeroValue261
  t138 := Tryz.underlying307
  a138 := Tryz.isAgg307
  z138 := Tryz.sizeOf307
  v138 := Tryz.zeroValue307
  t139 := Tryz.underlying308
  a139 := Tryz.isAgg308
  z139 := Tryz.sizeOf308
  v139 := Tryz.zeroValue308
  g3 := by kernel_rfl
  g4 := by kernel_rfl }
def Tryz.lays212_ren : Go.Shelf.Ren := ⟨fun | 212 => 214 | 263 => 239 | 264 => 240 | n => n, fun | 46 => 216 | 51 => 230 | 146 => 231 | 53 => 233 | 148 => 234 | n => n, fun | n => n⟩
theorem Tryz.lays212 : Go.Proofs.Lays.n212 Tryz.prog Tryz.lays212_ren := {
  mixed := by kernel_rfl
  f212 := Tryz.func214.trans (congrArg some (by kernel_rfl))
  f263 := Tryz.func239.trans (congrArg some (by kernel_rfl))
  f264 := Tryz.func240.trans (congrArg some (by kernel_rfl))
  t46 := Tryz.underlying216
  a46 := Tryz.isAgg216
  z46 := Tryz.sizeOf216
  v46 := Tryz.zeroValue216
  t51 := Tryz.underlying230
  a51 := Tryz.isAgg230
  z51 := Tryz.sizeOf230
  v51 := Tryz.zeroValue230
  t53 := Tryz.underlying233
  a53 := Tryz.isAgg233
  z53 := Tryz.sizeOf233
  v53 := Tryz.zeroValue233
  t146 := Tryz.underlying231
  a146 := Tryz.isAgg231
  z146 := Tryz.sizeOf231
  v146 := Tryz.zeroValue231
  t148 := Tryz.underlying234
  a148 := Tryz.isAgg234
  z148 := Tryz.sizeOf234
  v148 := Tryz.zeroValue234 }
open Go.RowKit Go.Lib in
theorem Tryz.bits_Mul (x y : Nat) (hx : x < 18446744073709551616) (hy : y < 18446744073709551616) (w : World) :
    Calls Tryz.prog 214 #[.int .u64 x, .int .u64 y] w fun e w' => e = .returned (.tuple #[.int .u64 ((x * y / 18446744073709551616 : Nat) : Int), .int .u64 ((x * y % 18446744073709551616 : Nat) : Int)]) ∧ w' = w := Any.bits_Mul Tryz.lays212 x y hx hy w
def Tryz.lays110_ren : Go.Shelf.Ren := ⟨fun | 110 => 172 | 109 => 218 | n => n, fun | 31 => 26 | 9 => 9 | 4 => 4 | 3 => 3 | 0 => 0 | n => n, fun | n => n⟩
theorem Tryz.lays110 : Go.Proofs.Lays.n110 Tryz.prog Tryz.lays110_ren := {
  mixed := by kernel_rfl
  f109 := Tryz.func218.trans (congrArg some (by kernel_rfl))
  f110 := Tryz.func172.trans (congrArg some (by kernel_rfl))
  t0 := Tryz.underlying0
  a0 := Tryz.isAgg0
  z0 := Tryz.sizeOf0
  v0 := Tryz.zeroValue0
  t3 := Tryz.underlying3
  a3 := Tryz.isAgg3
  z3 := Tryz.sizeOf3
  v3 := Tryz.zeroValue3
  t4 := Tryz.underlying4
  a4 := Tryz.isAgg4
  z4 := Tryz.sizeOf4
  v4 := Tryz.zeroValue4
  t9 := Tryz.underlying9
  a9 := Tryz.isAgg9
  z9 := Tryz.sizeOf9
  v9 := Tryz.zeroValue9
  t31 := Tryz.underlying26
  a31 := Tryz.isAgg26
  z31 := Tryz.sizeOf26
  v31 := Tryz.zeroValue26 }
open Go.Lib in
theorem Tryz.slices_Contains_string (b off n c : Nat) (zs : List ByteArray) (x : ByteArray) (w : World) (hz : n ≤ zs.length) (hbig : n ≤ 9223372036854775807) (hc : ∀ j, j < zs.length → w.cell? ⟨b, off + j, none⟩ = some (.string (zs.getD j ByteArray.empty))) :
    Calls Tryz.prog 172 #[.slice (some ⟨b, off, none⟩) n c, .string x] w fun e w' => e = .returned (.bool (Lib.containsS (zs.take n) x)) ∧ w' = w := Any.slices_Contains_string Tryz.lays110 b off n c zs x w hz hbig hc
open Go.Lib in
theorem Tryz.slices_Contains_string_empty (a : Option Addr) (c : Nat) (x : ByteArray) (w : World) :
    Calls Tryz.prog 172 #[.slice a 0 c, .string x] w fun e w' => e = .returned (.bool false) ∧ w' = w := Any.slices_Contains_string_empty Tryz.lays110 a c x w
end Go.Proofs
namespace Go.Proofs.YtclpbhoekmecjaaGreatDoor
open Go.RowKit
set_option linter.unusedVariables false
set_option linter.unusedSimpArgs false
set_option maxHeartbeats 400000 in
theorem aP (n a b:Int) (w:World) :
 Calls Tryz.prog 58 #[.int .i64 n,.int .i64 a,.int .i64 b] w fun e w'=>e=.returned (.bool (inR n a b))∧w=w':=by
 by_cases h:a≤n
 ·go_enter Tryz.func58,Tryz.ntmps58
  go_wp2
  go_ret
  exact ⟨by simp [inR,h],rfl⟩
 ·go_enter Tryz.func58,Tryz.ntmps58
  go_wp2
  go_ret
  exact ⟨by simp [inR];omega,rfl⟩
set_option maxHeartbeats 400000 in
theorem bU (n a b:Int) (w:World) :
 Calls Tryz.prog 86 #[.int .i64 n,.int .i64 a,.int .i64 b] w fun e w'=>e=.returned (.bool (inR n a b))∧w=w':=by
 by_cases h:a≤n
 ·go_enter Tryz.func86,Tryz.ntmps86
  go_wp2
  go_ret
  exact ⟨by simp [inR,h],rfl⟩
 ·go_enter Tryz.func86,Tryz.ntmps86
  go_wp2
  go_ret
  exact ⟨by simp [inR];omega,rfl⟩
end Go.Proofs.YtclpbhoekmecjaaGreatDoor
namespace Go.Proofs.YtclpbhoekmecjaaGreatDoor
open Go.RowKit
set_option linter.unusedVariables false
set_option linter.unusedSimpArgs false
theorem d9 {α:Type} (p:α→Bool) (xs:List α) (i:Nat) (h:i<xs.length):(xs.take (i+1)).any p=((xs.take i).any p || p xs[i]):=by
 rw [List.take_succ_eq_append_getElem h,List.any_append,List.any_cons,List.any_nil,Bool.or_false]
theorem qb {α:Type} (p:α→Bool) (xs:List α) (i:Nat) (h:i<xs.length) (hp:p xs[i]=true):xs.any p=true:=List.any_eq_true.2 ⟨_,List.getElem_mem h,hp⟩
set_option maxHeartbeats 1600000 in
theorem hZ (lo hi:Nat) (p:Int→Bool) (gf:FuncId) (lb:Array Value) (v:Value) (xs:List Int) (w:World) (h:SlV 1 bS lo hi w v xs) (eg:∀args w,(callFunc gf args).run Tryz.prog w=.ok (.enter gf args) w)
 (hf:∀(i:Nat) (h:i<xs.length) (cs:List Value) (W:World),Ext w W→bS lo hi W cs xs[i]→Calls Tryz.prog gf (#[.int .i64 xs[i]]++lb) W fun e W'=>e=.returned (.bool (p xs[i]))∧Ext W W') :
 Calls Tryz.prog 154 #[v,.func (.func gf) #[] lb] w fun e w'=>∃r:Int,e=.returned (.int .i64 r)∧decide (0≤r)=xs.any p∧Ext w w':=by
 obtain ⟨a,k,rfl,g1,g2,g3,g4⟩:=h
 unfold maxLen at g2
 go_enter Tryz.func154,Tryz.ntmps154
 go_wp2
 go_loopw [5,8] (fun _ c wr=>∃i:Nat,c=.int .i64 i∧i≤xs.length∧(xs.take i).any p=false∧Ext w wr) (fun _ c _=>xs.length - (intOf c).toNat)
 case atStart=>exact ⟨0,rfl,Nat.zero_le _,rfl,xw⟩
 case round=>
  obtain ⟨i,rfl,hi',hno,hx⟩:=hrel
  by_cases hlt:i<xs.length
  ·rcases g4 with g4|⟨b,o,rfl,gb1,gb2,g4⟩
   ·subst g4;simp at hlt
   ·obtain ⟨cs,hl,hP,hc⟩:=g4 i hlt
    have HP:=bS.keeps _ _ _ _ _ _ (bV.ext hx) hP
    have HF:=hf i hlt cs wr hx HP
    obtain ⟨rfl,e1⟩:=hP
    have q0:=hx.keep (hc 0 _ rfl)
    rw [Nat.mul_one,Nat.add_zero] at q0
    clear g4 hc hf
    have hsucc:=d9 p xs i hlt
    have hany:=qb p xs i hlt
    generalize hpv:p xs[i]=pv at HF hsucc hany
    cases pv
    ·go_wp2_with (refine HF.mono ?_;rintro e y ⟨rfl,hb⟩)
     go_roundw
     case rel=>exact ⟨i+1,rfl,by omega,by rw [hsucc,hno];rfl,xw⟩
     ·simp only [intOf];omega
    ·have hA:=Lib.hid (hany rfl)
     clear hany hsucc
     go_wp2_with (refine HF.mono ?_;rintro e y ⟨rfl,hb⟩)
     go_ret
     exact ⟨_,rfl,by rw [hA.out];simp,xw⟩
  ·go_wp2
   go_ret
   rw [List.take_of_length_le (by omega)] at hno
   exact ⟨_,rfl,by rw [hno];rfl,xw⟩
theorem bH (lo hi:Nat) (p:Int→Bool) (gf:FuncId) (lb:Array Value) (v:Value) (xs:List Int) (w:World) (h:SlV 1 bS lo hi w v xs) (eg:∀args w,(callFunc gf args).run Tryz.prog w=.ok (.enter gf args) w)
 (hf:∀(i:Nat) (h:i<xs.length) (cs:List Value) (W:World),Ext w W→bS lo hi W cs xs[i]→Calls Tryz.prog gf (#[.int .i64 xs[i]]++lb) W fun e W'=>e=.returned (.bool (p xs[i]))∧Ext W W') :
 Calls Tryz.prog 108 #[v,.func (.func gf) #[] lb] w fun e w'=>e=.returned (.bool (xs.any p))∧Ext w w':=by
 have H:=hZ lo hi p gf lb v xs w h eg hf
 clear hf
 generalize xs.any p=r0 at H ⊢
 go_enter Tryz.func108,Tryz.ntmps108
 go_wp2_with (go_at_call 154;refine H.mono ?_;rintro e y ⟨r,rfl,hr,hb⟩)
 all_goals go_ret
 all_goals exact ⟨am (by simp),xw⟩
set_option maxHeartbeats 1600000 in
theorem du (lo hi:Nat) (p:Ctl→Bool) (gf:FuncId) (lb:Array Value) (v:Value) (xs:List Ctl) (w:World) (h:SlV 3 fo lo hi w v xs) (eg:∀args w,(callFunc gf args).run Tryz.prog w=.ok (.enter gf args) w)
 (hf:∀(i:Nat) (h:i<xs.length) (cs:List Value) (W:World),Ext w W→fo lo hi W cs xs[i]→Calls Tryz.prog gf (#[.agg cs.toArray]++lb) W fun e W'=>e=.returned (.bool (p xs[i]))∧Ext W W') :
 Calls Tryz.prog 238 #[v,.func (.func gf) #[] lb] w fun e w'=>∃r:Int,e=.returned (.int .i64 r)∧decide (0≤r)=xs.any p∧Ext w w':=by
 obtain ⟨a,k,rfl,g1,g2,g3,g4⟩:=h
 unfold maxLen at g2
 go_enter Tryz.func238,Tryz.ntmps238
 go_wp2
 go_loopw [5,8] (fun _ c wr=>∃i:Nat,c=.int .i64 i∧i≤xs.length∧(xs.take i).any p=false∧Ext w wr) (fun _ c _=>xs.length - (intOf c).toNat)
 case atStart=>exact ⟨0,rfl,Nat.zero_le _,rfl,xw⟩
 case round=>
  obtain ⟨i,rfl,hi',hno,hx⟩:=hrel
  by_cases hlt:i<xs.length
  ·rcases g4 with g4|⟨b,o,rfl,gb1,gb2,g4⟩
   ·subst g4;simp at hlt
   ·obtain ⟨cs,hl,hP,hc⟩:=g4 i hlt
    have HP:=fo.keeps _ _ _ _ _ _ (bV.ext hx) hP
    have HF:=hf i hlt cs wr hx HP
    obtain ⟨rfl,e1,e2,e3⟩:=hP
    have q0:=hx.keep (hc 0 _ rfl)
    have q1:=hx.keep (hc 1 _ rfl)
    have q2:=hx.keep (hc 2 _ rfl)
    rw [Nat.add_zero] at q0
    clear g4 hc hf
    have hsucc:=d9 p xs i hlt
    have hany:=qb p xs i hlt
    generalize hpv:p xs[i]=pv at HF hsucc hany
    cases pv
    ·go_wp2_with (refine HF.mono ?_;rintro e y ⟨rfl,hb⟩)
     go_roundw
     case rel=>exact ⟨i+1,rfl,by omega,by rw [hsucc,hno];rfl,xw⟩
     ·simp only [intOf];omega
    ·have hA:=Lib.hid (hany rfl)
     clear hany hsucc
     go_wp2_with (refine HF.mono ?_;rintro e y ⟨rfl,hb⟩)
     go_ret
     exact ⟨_,rfl,by rw [hA.out];simp,xw⟩
  ·go_wp2
   go_ret
   rw [List.take_of_length_le (by omega)] at hno
   exact ⟨_,rfl,by rw [hno];rfl,xw⟩
theorem df (lo hi:Nat) (p:Ctl→Bool) (gf:FuncId) (lb:Array Value) (v:Value) (xs:List Ctl) (w:World) (h:SlV 3 fo lo hi w v xs) (eg:∀args w,(callFunc gf args).run Tryz.prog w=.ok (.enter gf args) w)
 (hf:∀(i:Nat) (h:i<xs.length) (cs:List Value) (W:World),Ext w W→fo lo hi W cs xs[i]→Calls Tryz.prog gf (#[.agg cs.toArray]++lb) W fun e W'=>e=.returned (.bool (p xs[i]))∧Ext W W') :
 Calls Tryz.prog 211 #[v,.func (.func gf) #[] lb] w fun e w'=>e=.returned (.bool (xs.any p))∧Ext w w':=by
 have H:=du lo hi p gf lb v xs w h eg hf
 clear hf
 generalize xs.any p=r0 at H ⊢
 go_enter Tryz.func211,Tryz.ntmps211
 go_wp2_with (go_at_call 238;refine H.mono ?_;rintro e y ⟨r,rfl,hr,hb⟩)
 all_goals go_ret
 all_goals exact ⟨am (by simp),xw⟩
set_option maxHeartbeats 1600000 in
theorem d8 (lo hi:Nat) (p:Wr→Bool) (gf:FuncId) (lb:Array Value) (v:Value) (xs:List Wr) (w:World) (h:SlV 2 WrP lo hi w v xs) (eg:∀args w,(callFunc gf args).run Tryz.prog w=.ok (.enter gf args) w)
 (hf:∀(i:Nat) (h:i<xs.length) (cs:List Value) (W:World),Ext w W→WrP lo hi W cs xs[i]→Calls Tryz.prog gf (#[.agg cs.toArray]++lb) W fun e W'=>e=.returned (.bool (p xs[i]))∧Ext W W') :
 Calls Tryz.prog 213 #[v,.func (.func gf) #[] lb] w fun e w'=>∃r:Int,e=.returned (.int .i64 r)∧decide (0≤r)=xs.any p∧Ext w w':=by
 obtain ⟨a,k,rfl,g1,g2,g3,g4⟩:=h
 unfold maxLen at g2
 go_enter Tryz.func213,Tryz.ntmps213
 go_wp2
 go_loopw [5,8] (fun _ c wr=>∃i:Nat,c=.int .i64 i∧i≤xs.length∧(xs.take i).any p=false∧Ext w wr) (fun _ c _=>xs.length - (intOf c).toNat)
 case atStart=>exact ⟨0,rfl,Nat.zero_le _,rfl,xw⟩
 case round=>
  obtain ⟨i,rfl,hi',hno,hx⟩:=hrel
  by_cases hlt:i<xs.length
  ·rcases g4 with g4|⟨b,o,rfl,gb1,gb2,g4⟩
   ·subst g4;simp at hlt
   ·obtain ⟨cs,hl,hP,hc⟩:=g4 i hlt
    have HP:=WrP.keeps _ _ _ _ _ _ (bV.ext hx) hP
    have HF:=hf i hlt cs wr hx HP
    obtain ⟨rfl,e1,e2⟩:=hP
    have q0:=hx.keep (hc 0 _ rfl)
    have q1:=hx.keep (hc 1 _ rfl)
    rw [Nat.add_zero] at q0
    clear g4 hc hf
    have hsucc:=d9 p xs i hlt
    have hany:=qb p xs i hlt
    generalize hpv:p xs[i]=pv at HF hsucc hany
    cases pv
    ·go_wp2_with (refine HF.mono ?_;rintro e y ⟨rfl,hb⟩)
     go_roundw
     case rel=>exact ⟨i+1,rfl,by omega,by rw [hsucc,hno];rfl,xw⟩
     ·simp only [intOf];omega
    ·have hA:=Lib.hid (hany rfl)
     clear hany hsucc
     go_wp2_with (refine HF.mono ?_;rintro e y ⟨rfl,hb⟩)
     go_ret
     exact ⟨_,rfl,by rw [hA.out];simp,xw⟩
  ·go_wp2
   go_ret
   rw [List.take_of_length_le (by omega)] at hno
   exact ⟨_,rfl,by rw [hno];rfl,xw⟩
theorem dK (lo hi:Nat) (p:Wr→Bool) (gf:FuncId) (lb:Array Value) (v:Value) (xs:List Wr) (w:World) (h:SlV 2 WrP lo hi w v xs) (eg:∀args w,(callFunc gf args).run Tryz.prog w=.ok (.enter gf args) w)
 (hf:∀(i:Nat) (h:i<xs.length) (cs:List Value) (W:World),Ext w W→WrP lo hi W cs xs[i]→Calls Tryz.prog gf (#[.agg cs.toArray]++lb) W fun e W'=>e=.returned (.bool (p xs[i]))∧Ext W W') :
 Calls Tryz.prog 151 #[v,.func (.func gf) #[] lb] w fun e w'=>e=.returned (.bool (xs.any p))∧Ext w w':=by
 have H:=d8 lo hi p gf lb v xs w h eg hf
 clear hf
 generalize xs.any p=r0 at H ⊢
 go_enter Tryz.func151,Tryz.ntmps151
 go_wp2_with (go_at_call 213;refine H.mono ?_;rintro e y ⟨r,rfl,hr,hb⟩)
 all_goals go_ret
 all_goals exact ⟨am (by simp),xw⟩
set_option maxHeartbeats 1600000 in
theorem ef (lo hi:Nat) (p:Rul→Bool) (gf:FuncId) (lb:Array Value) (v:Value) (xs:List Rul) (w:World) (h:SlV 13 tO lo hi w v xs) (eg:∀args w,(callFunc gf args).run Tryz.prog w=.ok (.enter gf args) w)
 (hf:∀(i:Nat) (h:i<xs.length) (cs:List Value) (W:World),Ext w W→tO lo hi W cs xs[i]→Calls Tryz.prog gf (#[.agg cs.toArray]++lb) W fun e W'=>e=.returned (.bool (p xs[i]))∧Ext W W') :
 Calls Tryz.prog 139 #[v,.func (.func gf) #[] lb] w fun e w'=>∃r:Int,e=.returned (.int .i64 r)∧decide (0≤r)=xs.any p∧Ext w w':=by
 obtain ⟨a,k,rfl,g1,g2,g3,g4⟩:=h
 unfold maxLen at g2
 go_enter Tryz.func139,Tryz.ntmps139
 go_wp2
 go_loopw [5,8] (fun _ c wr=>∃i:Nat,c=.int .i64 i∧i≤xs.length∧(xs.take i).any p=false∧Ext w wr) (fun _ c _=>xs.length - (intOf c).toNat)
 case atStart=>exact ⟨0,rfl,Nat.zero_le _,rfl,xw⟩
 case round=>
  obtain ⟨i,rfl,hi',hno,hx⟩:=hrel
  by_cases hlt:i<xs.length
  ·rcases g4 with g4|⟨b,o,rfl,gb1,gb2,g4⟩
   ·subst g4;simp at hlt
   ·obtain ⟨cs,hl,hP,hc⟩:=g4 i hlt
    have HP:=tO.keeps _ _ _ _ _ _ (bV.ext hx) hP
    have HF:=hf i hlt cs wr hx HP
    obtain ⟨c1,c2,v,rfl,⟨v1,v2,v4,v5,rfl,_⟩,⟨y1,y2,y4,y5,rfl,_⟩,eC⟩:=hP
    have q0:=hx.keep (hc 0 _ rfl)
    have q1:=hx.keep (hc 1 _ rfl)
    have q2:=hx.keep (hc 2 _ rfl)
    have q3:=hx.keep (hc 3 _ rfl)
    have q4:=hx.keep (hc 4 _ rfl)
    have q5:=hx.keep (hc 5 _ rfl)
    have q6:=hx.keep (hc 6 _ rfl)
    have q7:=hx.keep (hc 7 _ rfl)
    have q8:=hx.keep (hc 8 _ rfl)
    have q9:=hx.keep (hc 9 _ rfl)
    have q10:=hx.keep (hc 10 _ rfl)
    have q11:=hx.keep (hc 11 _ rfl)
    have q12:=hx.keep (hc 12 _ rfl)
    rw [Nat.add_zero] at q0
    clear g4 hc hf
    have hsucc:=d9 p xs i hlt
    have hany:=qb p xs i hlt
    generalize hpv:p xs[i]=pv at HF hsucc hany
    cases pv
    ·go_wp2_with (refine HF.mono ?_;rintro e y ⟨rfl,hb⟩)
     go_roundw
     case rel=>exact ⟨i+1,rfl,by omega,by rw [hsucc,hno];rfl,xw⟩
     ·simp only [intOf];omega
    ·have hA:=Lib.hid (hany rfl)
     clear hany hsucc
     go_wp2_with (refine HF.mono ?_;rintro e y ⟨rfl,hb⟩)
     go_ret
     exact ⟨_,rfl,by rw [hA.out];simp,xw⟩
  ·go_wp2
   go_ret
   rw [List.take_of_length_le (by omega)] at hno
   exact ⟨_,rfl,by rw [hno];rfl,xw⟩
theorem dI (lo hi:Nat) (p:Rul→Bool) (gf:FuncId) (lb:Array Value) (v:Value) (xs:List Rul) (w:World) (h:SlV 13 tO lo hi w v xs) (eg:∀args w,(callFunc gf args).run Tryz.prog w=.ok (.enter gf args) w)
 (hf:∀(i:Nat) (h:i<xs.length) (cs:List Value) (W:World),Ext w W→tO lo hi W cs xs[i]→Calls Tryz.prog gf (#[.agg cs.toArray]++lb) W fun e W'=>e=.returned (.bool (p xs[i]))∧Ext W W') :
 Calls Tryz.prog 98 #[v,.func (.func gf) #[] lb] w fun e w'=>e=.returned (.bool (xs.any p))∧Ext w w':=by
 have H:=ef lo hi p gf lb v xs w h eg hf
 clear hf
 generalize xs.any p=r0 at H ⊢
 go_enter Tryz.func98,Tryz.ntmps98
 go_wp2_with (go_at_call 139;refine H.mono ?_;rintro e y ⟨r,rfl,hr,hb⟩)
 all_goals go_ret
 all_goals exact ⟨am (by simp),xw⟩
end Go.Proofs.YtclpbhoekmecjaaGreatDoor
namespace Go.Proofs.YtclpbhoekmecjaaGreatDoor
open Go.RowKit
set_option linter.unusedVariables false
set_option linter.unusedSimpArgs false
def v8 (c:UInt8):Bool:=inR (c.toNat:Int) 97 122
def dD (s:ByteArray):Bool:=inR (s.size:Int) 1 4 && s.data.toList.all v8
def yH:List UInt8:=[97,98,99,100,101,102,103,104,105,106,107,108,109,110,111,112,113,114,115,116,117,118,119,120,121,122]
theorem E4:∀n:Fin 256,yH.contains (UInt8.ofNat n.val)=v8 (UInt8.ofNat n.val):=by decide +kernel
theorem DY (c:UInt8):yH.contains c=v8 c:=by
 have h:=E4 ⟨c.toNat,c.toNat_lt⟩
 simpa using h
theorem mc (p:UInt8→Bool):∀l:List UInt8,l.dropWhile p = []↔l.all p=true:=by
 intro l
 induction l with
 | nil=>simp
 | cons x l ih=>
  rw [List.dropWhile_cons,List.all_cons]
  cases hx:p x
  ·simp
  ·simp only [if_true,Bool.true_and]
   exact ih
theorem qn (p:UInt8→Bool):∀l:List UInt8,(l.dropWhile p).all p=true→l.all p=true:=by
 intro l
 induction l with
 | nil=>intro h;rfl
 | cons x l ih=>
  rw [List.dropWhile_cons]
  cases hx:p x
  ·simp [hx]
  ·simp only [if_true,List.all_cons,hx,Bool.true_and]
   exact ih
theorem B8 (l:List UInt8):(Lib.trimS l yH = [])↔l.all v8=true:=by
 have e:(fun c=>yH.contains c)=v8:=funext DY
 unfold Lib.trimS Lib.trimLeftS Lib.trimRightS
 show List.dropWhile (fun c=>yH.contains c) ((List.dropWhile (fun c=>yH.contains c) l.reverse).reverse) = []↔_
 rw [e,mc,List.all_reverse]
 constructor
 ·intro h
  have:=qn v8 _ h
  rwa [List.all_reverse] at this
 ·intro h
  have h2:List.dropWhile v8 l.reverse = []:=(mc v8 _).2 (by rw [List.all_reverse];exact h)
  rw [h2];rfl
theorem yy (s:ByteArray):(⟨(Lib.trimS s.data.toList yH).toArray⟩:ByteArray).toList.isEmpty=s.data.toList.all v8:=by
 rw [Lib.toList_data]
 show (Lib.trimS s.data.toList yH).toArray.toList.isEmpty=_
 rw [List.toList_toArray]
 rw [Bool.eq_iff_iff,List.isEmpty_iff]
 exact B8 _
attribute [local irreducible] inR
set_option maxRecDepth 100000 in
set_option maxHeartbeats 800000 in
theorem eh (s:ByteArray) (w:World) (hs:s.size≤maxLen) :
 Calls Tryz.prog 210 #[.string s] w fun e w'=>e=.returned (.bool (dD s))∧Ext w w':=by
 have hs':=hs
 unfold maxLen at hs'
 have HT:=Any.strings_Trim_laid Tryz.lays160 (by kernel_rfl) s ⟨yH.toArray⟩ w (by omega) (by decide) (ascii_of_all (by decide))
 change Calls Tryz.prog 237 _ _ _ at HT
 have HE:=Lib.hid (yy s)
 unfold dD
 cases h1:inR (s.size:Int) 1 4
 ·have H1:=Lib.hid h1
  clear h1
  go_enter Tryz.func210,Tryz.ntmps210
  go_wp2_with (go_at_call 58;refine (aP _ _ _ _).mono ?_;rintro e w' ⟨rfl,rfl⟩;rw [H1.out])
  go_ret
  exact ⟨rfl,xw⟩
 ·have H1:=Lib.hid h1
  clear h1
  have HE2:Hid ((⟨(Lib.trimS s.data.toList yH).toArray⟩:ByteArray).toList.isEmpty=s.data.toList.all v8):=HE
  generalize hT:(⟨(Lib.trimS s.data.toList yH).toArray⟩:ByteArray)=T at HE2
  have HT2:Calls Tryz.prog 237 #[.string s,.string ⟨yH.toArray⟩] w fun e w'=>e=.returned (.string T)∧Ext w w':=HT.mono fun e w' ⟨h,k⟩=>⟨by rw [h,← hT],k⟩
  clear HT HE hT
  go_enter Tryz.func210,Tryz.ntmps210
  go_wp2_with (first|(go_at_call 58;refine (aP _ _ _ _).mono ?_;rintro e w' ⟨rfl,rfl⟩;rw [H1.out])|(go_at_call 237;refine HT2.mono ?_;rintro e y ⟨rfl,hb⟩))
  go_ret
  exact ⟨am (by first|exact HE2.out|simpa using HE2.out),xw⟩
set_option maxHeartbeats 800000 in
theorem ja (s:ByteArray) (w:World) (hs:s.size≤maxLen) :
 Calls Tryz.prog 179 #[.string s] w fun e w'=>e=.returned (.bool (dD s))∧Ext w w':=by
 unfold maxLen at hs
 have hlo:∀c:UInt8,v8 c=(decide (97≤(c.toNat:Int)) && decide ((c.toNat:Int)≤122)):=fun c=>by unfold v8 inR;rfl
 go_enter Tryz.func179,Tryz.ntmps179
 go_wp2
 go_loopw [3] (fun c wr=>∃k:Nat,k≤s.size∧c=.int .i64 k∧(s.data.toList.take k).all v8=true∧Ext w wr) (fun c _=>s.size - (intOf c).toNat)
 case atStart=>exact ⟨0,Nat.zero_le _,rfl,by simp,xw⟩
 case round=>
  obtain ⟨k,hk,rfl,hp,hx⟩:=hrel
  have HP:=Lib.hid hp
  clear hp
  by_cases hlt:k<s.size
  ·have hb:=EF s k hlt
   have hsn:=Lib.hid (Ap s k hlt)
   have hat:=Lib.hid (FF s v8 k hlt)
   have hl:=Lib.hid (hlo s[k])
   clear hlo
   by_cases h1:(s[k].toNat:Int)<97
   ·go_wp2
    go_ret
    exact ⟨am (by unfold dD;rw [hat.out (by rw [hl.out];simp;omega),Bool.and_false]),xw⟩
   ·by_cases h2:(122:Int)<(s[k].toNat:Int)
    ·go_wp2
     go_ret
     exact ⟨am (by unfold dD;rw [hat.out (by rw [hl.out];simp;omega),Bool.and_false]),xw⟩
    ·go_wp2
     go_roundw
     case rel=>exact ⟨k+1,by omega,rfl,by rw [hsn.out,List.all_append,HP.out,List.all_cons,hl.out];simp;omega,xw⟩
     ·simp only [intOf];omega
  ·have hta:=Lib.hid (C8 s k hlt)
   go_wp2_with (go_at_call 86;refine (bU _ _ _ _).mono ?_;rintro e w' ⟨rfl,rfl⟩)
   go_ret
   exact ⟨am (by unfold dD;rw [← hta.out,HP.out,Bool.and_true]),xw⟩
end Go.Proofs.YtclpbhoekmecjaaGreatDoor
namespace Go.Proofs.YtclpbhoekmecjaaGreatDoor
open Go.RowKit
set_option linter.unusedVariables false
set_option linter.unusedSimpArgs false
attribute [local irreducible] inR dD
def lF (a b:ByteArray):Bool:=a.toList == b.toList
def Gp (c:Ctl):Bool:=dD c.name && (inR c.ports 0 3 && inR c.kind 0 2)
def we (l:List Ctl) (i:Nat) (c:Ctl):Bool:=!(l.take i).any (fun d=>lF d.name c.name)
def rN (l:List Ctl) (i:Nat):Bool:=match l[i]? with|none=>true|some c=>Gp c && we l i c
def kX (l:List Ctl):Bool:=inR (l.length:Int) 1 6 && (List.range l.length).all (rN l)
theorem bM (f:Nat→Bool) (i:Nat):(List.range (i+1)).all f=((List.range i).all f && f i):=by
 rw [List.range_succ,List.all_append];simp
theorem aT (f:Nat→Bool) (n i:Nat) (h:i<n) (hf:f i=false):(List.range n).all f=false:=by
 rw [List.all_eq_false]
 exact ⟨i,List.mem_range.2 h,by simp [hf]⟩
theorem rh (l:List Ctl) (i:Nat) (h:i<l.length):rN l i=(Gp l[i] && we l i l[i]):=by
 unfold rN;rw [List.getElem?_eq_getElem h]
theorem wD (l:List Ctl) (i:Nat) (h:i<l.length) (hb:rN l i=false):kX l=false:=by
 unfold kX;rw [aT _ _ i h hb,Bool.and_false]
theorem SlV.take {α:Type} {P:Lie α} {size lo hi:Nat} {w:World} {a:Option Addr} {n k:Nat} {xs:List α} (h:SlV size P lo hi w (.slice a n k) xs) (i:Nat) (hi':i≤xs.length):SlV size P lo hi w (.slice a i k) (xs.take i):=by
 obtain ⟨a',k',e,g1,g2,g3,g4⟩:=h
 simp only [Value.slice.injEq] at e
 obtain ⟨rfl,rfl,rfl⟩:=e
 have hl:(xs.take i).length=i:=by rw [List.length_take];omega
 refine ⟨a,k,by rw [hl],by omega,g2,g3,?_⟩
 rcases g4 with g4|⟨b,o,rfl,h1,h2,g4⟩
 ·left;rw [g4];simp
 ·refine .inr ⟨b,o,rfl,h1,h2,fun j hj=>?_⟩
  obtain ⟨cs,c1,c2,c3⟩:=g4 j (by omega)
  exact ⟨cs,c1,by rw [List.getElem_take];exact c2,c3⟩
theorem kD (lo hi B:Nat) (cs:List Value) (d:Ctl) (nm:ByteArray) (W:World) (hP:fo lo hi W cs d) (hc:W.cell? ⟨B,0,none⟩=some (.string nm)) :
 Calls Tryz.prog 212 #[.agg cs.toArray,.pointer (some ⟨B,0,none⟩)] W fun e W'=>e=.returned (.bool (lF d.name nm))∧Ext W W':=by
 obtain ⟨rfl,e1,e2,e3⟩:=hP
 have hB:=World.block_lt_of_cell? W ⟨B,0,none⟩ hc
 have hne:¬B=W.heap.size:=by simp at hB;omega
 unfold lF
 go_enter Tryz.func212,Tryz.ntmps212
 go_wp2
 go_ret
 exact ⟨rfl,xw⟩
set_option maxRecDepth 100000 in
set_option maxHeartbeats 1600000 in
theorem mb (lo hi:Nat) (v:Value) (l:List Ctl) (w:World) (h:lu lo hi w v l) :
 Calls Tryz.prog 144 #[v] w fun e w'=>e=.returned (.bool (kX l))∧Ext w w':=by
 have hV:=h
 obtain ⟨a,k,rfl,g1,g2,g3,g4⟩:=h
 unfold maxLen at g2
 cases h1:inR (l.length:Int) 1 6
 ·have H1:=Lib.hid h1
  clear h1
  go_enter Tryz.func144,Tryz.ntmps144
  go_wp2_with (go_at_call 58;refine (aP _ _ _ _).mono ?_;rintro e w' ⟨rfl,rfl⟩;rw [H1.out])
  go_ret
  exact ⟨am (by unfold kX;rw [H1.out];rfl),xw⟩
 ·have H1:=Lib.hid h1
  clear h1
  go_enter Tryz.func144,Tryz.ntmps144
  go_wp2_with (go_at_call 58;refine (aP _ _ _ _).mono ?_;rintro e w' ⟨rfl,rfl⟩;rw [H1.out])
  go_loopw [11] (fun c wr=>∃i:Nat,c=.int .i64 i∧i≤l.length∧(List.range i).all (rN l)=true∧Ext w wr) (fun c _=>l.length - (intOf c).toNat)
  case atStart=>exact ⟨0,rfl,Nat.zero_le _,rfl,xw⟩
  case round=>
   obtain ⟨i,rfl,hi',hok,hx⟩:=hrel
   have HOK:=Lib.hid hok
   clear hok
   by_cases hlt:i<l.length
   ·rcases g4 with g4|⟨b,o,rfl,gb1,gb2,g4⟩
    ·subst g4;simp at hlt
    ·obtain ⟨cs,hl,hP,hc⟩:=g4 i hlt
     have hbad:=wD l i hlt
     have hat:=rh l i hlt
     have hsucc:=bM (rN l) i
     have HV:=hV.keeps fo.keeps (bV.ext hx)
     have HT:=HV.take i (by omega)
     obtain ⟨rfl,e1,e2,e3⟩:=hP
     have q0:=hx.keep (hc 0 _ rfl)
     have q1:=hx.keep (hc 1 _ rfl)
     have q2:=hx.keep (hc 2 _ rfl)
     rw [Nat.add_zero] at q0
     clear g4 hc hV
     have hcb:Gp l[i]=(dD l[i].name && (inR l[i].ports 0 3 && inR l[i].kind 0 2)):=rfl
     generalize hn:dD l[i].name=n1 at hcb
     generalize hp2:inR l[i].ports 0 3=n2 at hcb
     generalize hp3:inR l[i].kind 0 2=n3 at hcb
     have hfr:we l i l[i] = !((l.take i).any (fun d=>lF d.name l[i].name)):=rfl
     generalize hp4:(l.take i).any (fun d=>lF d.name l[i].name)=n4 at hfr
     have HA:=Lib.hid hat
     have HC:=Lib.hid hcb
     have HF:=Lib.hid hfr
     have HS:=Lib.hid hsucc
     have H2:=Lib.hid hp2
     have H3:=Lib.hid hp3
     have H4:=Lib.hid hp4
     clear hat hcb hfr hsucc hp2 hp3 hp4
     go_wp2_with fail
     refine (eh _ _ e1).mono ?_
     rintro e y ⟨rfl,hb⟩
     rw [hn]
     clear hn
     have p0:=hb.keep (p:=⟨wr.heap.size,0,none⟩) (v:=.string l[i].name) (by simp)
     have p1:=hb.keep (p:=⟨wr.heap.size,1,none⟩) (v:=.int .i64 l[i].ports) (by simp)
     have p2:=hb.keep (p:=⟨wr.heap.size,2,none⟩) (v:=.int .i64 l[i].kind) (by simp)
     have hy:Ext wr y:=xw
     have HT':=HT.keeps fo.keeps (bV.ext hy)
     have hbad':n1=false∨n2=false∨n3=false∨n4=true→kX l=false:=fun hh=>hbad (by rw [HA.out,HC.out,HF.out];rcases hh with rfl|rfl|rfl|rfl <;> simp)
     cases n1
     ·have HB:=Lib.hid (hbad' (.inl rfl))
      go_wp2
      go_ret
      exact ⟨am HB.out.symm,xw⟩
     ·cases n2
      ·have HB:=Lib.hid (hbad' (.inr (.inl rfl)))
       go_wp2_with (go_at_call 58;refine (aP _ _ _ _).mono ?_;rintro e w' ⟨rfl,rfl⟩;rw [H2.out])
       go_ret
       exact ⟨am HB.out.symm,xw⟩
      ·cases n3
       ·have HB:=Lib.hid (hbad' (.inr (.inr (.inl rfl))))
        go_wp2_with (go_at_call 58;refine (aP _ _ _ _).mono ?_;rintro e w' ⟨rfl,rfl⟩;first|rw [H2.out]|rw [H3.out])
        go_ret
        exact ⟨am HB.out.symm,xw⟩
       ·have hHB:=Lib.hid (fun h4=>hbad' (.inr (.inr (.inr h4))))
        have eg:∀args w,(callFunc 212 args).run Tryz.prog w=.ok (.enter 212 args) w:=enters_of Tryz.func212 (by kernel_rfl) rfl
        have HCF:=df lo hi (fun d=>lF d.name l[i].name) 212 #[.pointer (some ⟨wr.heap.size,0,none⟩)] _ _ y HT' eg (fun j hj cs W hW hPW=>kD lo hi wr.heap.size cs _ l[i].name W hPW (hW.keep p0))
        rw [H4.out] at HCF
        clear hbad hbad' eg
        cases n4
        ·go_wp2_with (first|(go_at_call 58;refine (aP _ _ _ _).mono ?_;rintro e w' ⟨rfl,rfl⟩;first|rw [H2.out]|rw [H3.out])|(go_at_call 211;refine HCF.mono ?_;rintro e y2 ⟨rfl,hb2⟩))
         go_roundw
         case rel=>exact ⟨i+1,rfl,by omega,by rw [HS.out,HOK.out,HA.out,HC.out,HF.out];rfl,xw⟩
         ·simp only [intOf];omega
        ·have HB:=Lib.hid (hHB.out rfl)
         go_wp2_with (first|(go_at_call 58;refine (aP _ _ _ _).mono ?_;rintro e w' ⟨rfl,rfl⟩;first|rw [H2.out]|rw [H3.out])|(go_at_call 211;refine HCF.mono ?_;rintro e y2 ⟨rfl,hb2⟩))
         go_ret
         exact ⟨am HB.out.symm,xw⟩
   ·go_wp2
    go_ret
    have e:i=l.length:=by omega
    subst e
    exact ⟨am (by unfold kX;rw [H1.out,HOK.out];rfl),xw⟩
set_option maxRecDepth 100000 in
set_option maxHeartbeats 1600000 in
theorem mZ (lo hi:Nat) (v:Value) (l:List Ctl) (w:World) (h:lu lo hi w v l) :
 Calls Tryz.prog 122 #[v] w fun e w'=>e=.returned (.bool (kX l))∧Ext w w':=by
 obtain ⟨a,k,rfl,g1,g2,g3,g4⟩:=h
 unfold maxLen at g2
 go_enter Tryz.func122,Tryz.ntmps122
 go_wp2
 go_loopw [3] (fun c wr=>∃i:Nat,c=.int .i64 i∧i≤l.length∧(List.range i).all (rN l)=true∧Ext w wr) (fun c _=>l.length - (intOf c).toNat)
 case atStart=>exact ⟨0,rfl,Nat.zero_le _,rfl,xw⟩
 case round=>
  obtain ⟨i,rfl,hi',hok,hx⟩:=hrel
  have HOK:=Lib.hid hok
  clear hok
  by_cases hlt:i<l.length
  ·rcases g4 with g4|⟨b,o,rfl,gb1,gb2,g4⟩
   ·subst g4;simp at hlt
   ·have hbad:=wD l i hlt
    have hat:=rh l i hlt
    have hsucc:=bM (rN l) i
    obtain ⟨cs,hl,hP,hc⟩:=g4 i hlt
    obtain ⟨rfl,e1,e2,e3⟩:=hP
    have q0:=hx.keep (hc 0 _ rfl)
    have q1:=hx.keep (hc 1 _ rfl)
    have q2:=hx.keep (hc 2 _ rfl)
    rw [Nat.add_zero] at q0
    clear hc
    have hcb:Gp l[i]=(dD l[i].name && (inR l[i].ports 0 3 && inR l[i].kind 0 2)):=rfl
    generalize hn:dD l[i].name=n1 at hcb
    generalize hp2:inR l[i].ports 0 3=n2 at hcb
    generalize hp3:inR l[i].kind 0 2=n3 at hcb
    have hfr:we l i l[i] = !((l.take i).any (fun d=>lF d.name l[i].name)):=rfl
    generalize hp4:(l.take i).any (fun d=>lF d.name l[i].name)=n4 at hfr
    have HA:=Lib.hid hat
    have HC:=Lib.hid hcb
    have HF:=Lib.hid hfr
    have HS:=Lib.hid hsucc
    have H2:=Lib.hid hp2
    have H3:=Lib.hid hp3
    have H4:=Lib.hid hp4
    clear hat hcb hfr hsucc hp2 hp3 hp4
    have hbad':n1=false∨n2=false∨n3=false∨n4=true→kX l=false:=fun hh=>hbad (by rw [HA.out,HC.out,HF.out];rcases hh with rfl|rfl|rfl|rfl <;> simp)
    go_wp2_with fail
    refine (ja _ _ e1).mono ?_
    rintro e y ⟨rfl,hb⟩
    rw [hn]
    clear hn
    replace q0:=hb.keep q0
    replace q1:=hb.keep q1
    replace q2:=hb.keep q2
    have hy:=hx.trans hb
    cases n1
    ·have HB:=Lib.hid (hbad' (.inl rfl))
     go_wp2
     go_ret
     exact ⟨am HB.out.symm,xw⟩
    ·cases n2
     ·have HB:=Lib.hid (hbad' (.inr (.inl rfl)))
      go_wp2_with (go_at_call 86;refine (bU _ _ _ _).mono ?_;rintro e w' ⟨rfl,rfl⟩;rw [H2.out])
      go_ret
      exact ⟨am HB.out.symm,xw⟩
     ·cases n3
      ·have HB:=Lib.hid (hbad' (.inr (.inr (.inl rfl))))
       go_wp2_with (go_at_call 86;refine (bU _ _ _ _).mono ?_;rintro e w' ⟨rfl,rfl⟩;first|rw [H2.out]|rw [H3.out])
       go_ret
       exact ⟨am HB.out.symm,xw⟩
      ·have hHB:=Lib.hid (fun h4=>hbad' (.inr (.inr (.inr h4))))
       clear hbad hbad'
       go_wp2_with (go_at_call 86;refine (bU _ _ _ _).mono ?_;rintro e w' ⟨rfl,rfl⟩;first|rw [H2.out]|rw [H3.out])
       go_loopw [4] (fun c wz=>∃j:Nat,c=.int .i64 j∧j≤i∧(l.take j).any (fun d=>lF d.name l[i].name)=false∧Ext y wz) (fun c _=>i - (intOf c).toNat)
       case atStart=>exact ⟨0,rfl,Nat.zero_le _,rfl,Ext.refl _⟩
       case round=>
        obtain ⟨j,rfl,hj',hno,hxz⟩:=hrel
        have HNO:=Lib.hid hno
        clear hno
        by_cases hji:j<i
        ·obtain ⟨ds,hdl,hD,hd⟩:=g4 j (by omega)
         obtain ⟨rfl,d1,d2,d3⟩:=hD
         have r0:=hxz.keep (hy.keep (hd 0 _ rfl))
         rw [Nat.add_zero] at r0
         have s0:=hxz.keep q0
         have hats:=Lib.hid (d9 (fun d:Ctl=>lF d.name l[i].name) l j (by omega))
         have hany:lF l[j].name l[i].name=true→n4=true:=fun hh=>by
          rw [← H4.out]
          refine qb _ _ j (by rw [List.length_take];omega) ?_
          rw [List.getElem_take];exact hh
         have HANY:=Lib.hid hany
         clear hany hd
         have hse:lF l[j].name l[i].name=(l[j].name.toList == l[i].name.toList):=rfl
         cases hst:(l[j].name.toList == l[i].name.toList)
         ·rw [hst] at hse
          have HSE:=Lib.hid hse
          clear hse
          go_wp2_with (go_quiet (fail))
          go_roundw
          case rel=>exact ⟨j+1,rfl,by omega,by rw [hats.out,HNO.out];exact HSE.out,xw⟩
          ·simp only [intOf];omega
         ·rw [hst] at hse
          have HB:=Lib.hid (hHB.out (HANY.out hse))
          clear hse
          go_wp2_with (go_quiet (fail))
          go_ret
          exact ⟨am HB.out.symm,xw⟩
        ·have e:j=i:=by omega
         subst e
         have hn4:n4=false:=by rw [← H4.out];exact HNO.out
         subst hn4
         go_wp2
         go_roundw
         case rel=>exact ⟨j+1,rfl,by omega,by rw [HS.out,HOK.out,HA.out,HC.out,HF.out];rfl,xw⟩
         ·simp only [intOf];omega
  ·have e:i=l.length:=by omega
   subst e
   go_wp2_with (go_at_call 86;refine (bU _ _ _ _).mono ?_;rintro e w' ⟨rfl,rfl⟩)
   go_ret
   exact ⟨am (by unfold kX;rw [HOK.out,Bool.and_true]),xw⟩
end Go.Proofs.YtclpbhoekmecjaaGreatDoor
namespace Go.Proofs.YtclpbhoekmecjaaGreatDoor
open Go.RowKit
set_option linter.unusedVariables false
set_option linter.unusedSimpArgs false
attribute [local irreducible] inR dD
end Go.Proofs.YtclpbhoekmecjaaGreatDoor
namespace Go.Proofs.YtclpbhoekmecjaaGreatDoor
open Go.RowKit
set_option linter.unusedVariables false
set_option linter.unusedSimpArgs false
attribute [local irreducible] inR dD kX
end Go.Proofs.YtclpbhoekmecjaaGreatDoor
namespace Go.Proofs.YtclpbhoekmecjaaGreatDoor
open Go.RowKit
set_option linter.unusedVariables false
set_option linter.unusedSimpArgs false
attribute [local irreducible] inR dD kX
theorem fh {α:Type} (p:α→Bool) (xs:List α) (i:Nat) (h:i<xs.length):(xs.take (i+1)).all p=((xs.take i).all p && p xs[i]):=by
 rw [List.take_succ_eq_append_getElem h,List.all_append,List.all_cons,List.all_nil,Bool.and_true]
theorem qB {α:Type} (p:α→Bool) (xs:List α) (i:Nat) (h:i<xs.length) (hp:p xs[i]=false):xs.all p=false:=by
 rw [List.all_eq_false];exact ⟨_,List.getElem_mem h,by simp [hp]⟩
end Go.Proofs.YtclpbhoekmecjaaGreatDoor
namespace Go.Proofs.YtclpbhoekmecjaaGreatDoor
open Go.RowKit
set_option linter.unusedVariables false
set_option linter.unusedSimpArgs false
attribute [local irreducible] inR dD kX
end Go.Proofs.YtclpbhoekmecjaaGreatDoor
namespace Go.Proofs.YtclpbhoekmecjaaGreatDoor
open Go.RowKit
set_option linter.unusedVariables false
set_option linter.unusedSimpArgs false
theorem aN (w:World) (cs:List Value) (T:TypeId):∃W0,w.alloc (.cells cs.toArray T)=W0∧dj W0 w.heap.size cs∧Ext w W0∧W0.heap.size=w.heap.size+1:=
 ⟨_,rfl,dj.new w T cs _ rfl,Ext.alloc (Ext.refl w) _,by simp⟩
theorem iG {α:Type} (p:α→Bool) (l:List α):l.any (fun x=>!(p x)) = !(l.all p):=by
 induction l with
 | nil=>rfl
 | cons x l ih=>simp only [List.any_cons,List.all_cons,ih];cases p x <;> simp
theorem bL {n a b:Int} (h:inR n a b=true):a≤n∧n≤b:=by unfold inR at h;simpa using h
theorem wv {l:List Ctl} (h:kX l=true):1≤l.length∧l.length≤6:=by
 unfold kX at h
 have:=bL (Bool.and_eq_true_iff.1 h).1
 omega
attribute [local irreducible] inR dD kX
end Go.Proofs.YtclpbhoekmecjaaGreatDoor
namespace Go.Proofs.YtclpbhoekmecjaaGreatDoor
open Go.RowKit
set_option linter.unusedVariables false
set_option linter.unusedSimpArgs false
theorem BO {w w':World} (h:w.grownBy w' none):Ext w w':=⟨h.os,h.tape,h.output,h.size,fun k hk=>h.block k hk (by simp)⟩
theorem oR:(Tryz.prog.info? 3).map (fun i=>(i.zero,i.size,i.bytes))=some (some (.int .i64 0),1,8):=by kernel_rfl
theorem qF:(Tryz.prog.info? 9).map (fun i=>(i.zero,i.size,i.bytes))=some (some (.string ⟨#[]⟩),1,16):=by kernel_rfl
theorem B0:(Tryz.prog.info? 219).map (fun i=>(i.zero,i.size,i.bytes))=some (some (.agg #[.int .i64 0,.int .i64 0]),2,16):=by kernel_rfl
end Go.Proofs.YtclpbhoekmecjaaGreatDoor
namespace Go.Proofs.YtclpbhoekmecjaaGreatDoor
open Go.RowKit
set_option linter.unusedVariables false
set_option linter.unusedSimpArgs false
attribute [local irreducible] inR dD kX
end Go.Proofs.YtclpbhoekmecjaaGreatDoor
namespace Go.Proofs.YtclpbhoekmecjaaGreatDoor
open Go.RowKit
set_option linter.unusedVariables false
set_option linter.unusedSimpArgs false
def dh (a b:ByteArray):Bool:=Op.bytesLess a.toList b.toList
theorem jO:∀x y:List UInt8,(Op.bytesLess x y || (x == y)) = !(Op.bytesLess y x):=by
 intro x
 induction x with
 | nil=>intro y;cases y <;> simp [Op.bytesLess]
 | cons a x ih=>
  intro y
  cases y with
  | nil=>simp [Op.bytesLess]
  | cons b y=>
   simp only [Op.bytesLess]
   have hih:=ih y
   by_cases h1:a<b
   ·have h2:¬b<a:=by simp only [UInt8.lt_iff_toNat_lt] at *;omega
    have h3:¬b=a:=by intro h;subst h;exact h2 h1
    simp [h1,h2,h3]
   ·by_cases h2:b<a
    ·have h3:¬a=b:=by intro h;subst h;exact h1 h2
     simp [h1,h2,h3]
    ·have h3:a=b:=by
      simp only [UInt8.lt_iff_toNat_lt] at *
      exact UInt8.toNat_inj.1 (by omega)
     subst h3
     simp [h1]
     simpa using hih
theorem zD (a b:ByteArray):(Op.bytesLess a.toList b.toList || (a.toList == b.toList)) = !(dh b a):=jO _ _
def yD (l:List ByteArray) (i:Nat):Bool:=match l[i]? with|none=>true|some s=>dD s && (decide (i=0) || dh (l.getD (i - 1) ⟨#[]⟩) s)
def dp (l:List ByteArray):Bool:=(List.range l.length).all (yD l) && decide ((l.length:Int)≤16)
theorem rq (l:List ByteArray) (i:Nat) (h:i<l.length):yD l i=(dD l[i] && (decide (i=0) || dh (l.getD (i - 1) ⟨#[]⟩) l[i])):=by
 unfold yD;rw [List.getElem?_eq_getElem h]
theorem pB (l:List ByteArray) (i:Nat) (h:i<l.length) (hb:yD l i=false):dp l=false:=by
 unfold dp;rw [aT _ _ i h hb];rfl
attribute [local irreducible] inR dD dh
set_option maxHeartbeats 1600000 in
theorem jK (lo hi:Nat) (v:Value) (l:List ByteArray) (w:World) (h:yg lo hi w v l) :
 Calls Tryz.prog 145 #[v] w fun e w'=>e=.returned (.bool (dp l))∧Ext w w':=by
 obtain ⟨a,k,rfl,g1,g2,g3,g4⟩:=h
 unfold maxLen at g2
 go_enter Tryz.func145,Tryz.ntmps145
 go_wp2
 go_loopw [7] (fun c wr=>∃i:Nat,c=.int .i64 i∧i≤l.length∧(List.range i).all (yD l)=true∧Ext w wr) (fun c _=>l.length - (intOf c).toNat)
 case atStart=>exact ⟨0,rfl,Nat.zero_le _,rfl,xw⟩
 case round=>
  obtain ⟨i,rfl,hi',hok,hx⟩:=hrel
  have HOK:=Lib.hid hok
  clear hok
  by_cases hlt:i<l.length
  ·rcases g4 with g4|⟨b,o,rfl,gb1,gb2,g4⟩
   ·subst g4;simp at hlt
   obtain ⟨cs,hl,⟨rfl,e1⟩,hc⟩:=g4 i hlt
   have q0:=hx.keep (hc 0 _ rfl)
   rw [Nat.mul_one,Nat.add_zero] at q0
   clear hc
   have hbad:=pB l i hlt
   have HA:=Lib.hid (rq l i hlt)
   have HS:=Lib.hid (bM (yD l) i)
   by_cases hn:i=0
   ·subst hn
    simp only [Nat.add_zero] at q0
    cases ha:dD l[0]
    have Ha:=Lib.hid ha;clear ha
    have HB:=Lib.hid (hbad (by rw [HA.out];simp [Ha.out]))
    clear hbad
    have isF:=trivial
    rotate_left
    have Ha:=Lib.hid ha;clear ha
    have HG:=Lib.hid (show yD l 0=true by rw [HA.out];simp [Ha.out])
    clear hbad
    have isP:=trivial
    all_goals go_wp2_with (first|(go_at_call 210;(refine (eh _ _ e1).mono ?_);rintro e y ⟨rfl,hb⟩;rw [Ha.out]))
    all_goals first|(have:=isF;go_ret;exact ⟨am HB.out.symm,xw⟩)|(have:=isP;go_roundw;(case rel=>exact ⟨1,rfl,by omega,by rw [HS.out,HOK.out,HG.out];rfl,xw⟩);· simp only [intOf];omega)
   ·obtain ⟨j,rfl⟩:∃j,i=j+1:=⟨i - 1,by omega⟩
    obtain ⟨ds,hdl,⟨rfl,d1⟩,hd⟩:=g4 j (by omega)
    have r0:=hx.keep (hd 0 _ rfl)
    rw [Nat.mul_one,Nat.add_zero] at r0
    have hg:l.getD j ⟨#[]⟩=l[j]:=by rw [List.getD_eq_getElem?_getD,List.getElem?_eq_getElem (by omega)];rfl
    have HG:=Lib.hid hg
    have HLE:=Lib.hid (zD l[j+1] l[j])
    have jw:=IntWalk.i64_in (((j+1:Nat):Int) - 1) (by omega)
    have je:((j+1:Nat):Int) - 1=j:=by omega
    clear hd hg g4
    cases hle:dh l[j] l[j+1]
    ·have HB:=Lib.hid (hbad (by rw [HA.out,show j+1 - 1=j by omega,HG.out,hle];simp))
     have hz:=HLE.out
     rw [hle] at hz
     have HZ:=Lib.hid hz
     clear hbad hle
     cases ha:dD l[j+1]
     ·have Ha:=Lib.hid ha
      clear ha hz
      go_wp2_with (go_at_call 210;refine (eh _ _ e1).mono ?_;rintro e y ⟨rfl,hb⟩;rw [Ha.out])
      go_ret
      exact ⟨am HB.out.symm,xw⟩
     ·have Ha:=Lib.hid ha
      clear ha
      go_wp2_with (go_at_call 210;refine (eh _ _ e1).mono ?_;rintro e y ⟨rfl,hb⟩;rw [Ha.out];replace r0:=hb.keep r0)
      all_goals first
       | (go_ret;exact ⟨am HB.out.symm,xw⟩)
       | (exfalso;have hh:=HZ.out;simp_all;done)
    ·have hz:=HLE.out
     rw [hle] at hz
     have HL:=Lib.hid hle
     have HZ:=Lib.hid hz
     clear hle
     cases ha:dD l[j+1]
     ·have HB:=Lib.hid (hbad (by rw [HA.out,ha];rfl))
      have Ha:=Lib.hid ha
      clear ha hbad hz
      go_wp2_with (go_at_call 210;refine (eh _ _ e1).mono ?_;rintro e y ⟨rfl,hb⟩;rw [Ha.out])
      go_ret
      exact ⟨am HB.out.symm,xw⟩
     ·have HG2:=Lib.hid (show yD l (j+1)=true by rw [HA.out,show j+1 - 1=j by omega,HG.out,ha,HL.out];simp)
      have Ha:=Lib.hid ha
      clear ha hbad
      go_wp2_with (go_at_call 210;refine (eh _ _ e1).mono ?_;rintro e y ⟨rfl,hb⟩;rw [Ha.out];replace r0:=hb.keep r0)
      all_goals first
       | (exfalso;have hh:=HZ.out;simp_all;done)
       | (go_roundw
          case rel=>exact ⟨j+1+1,rfl,by omega,by rw [HS.out,HOK.out,HG2.out];rfl,xw⟩
          case measure=>simp only [intOf];omega)
  ·have e:i=l.length:=by omega
   subst e
   have HL:=Lib.hid (show dp l=decide ((l.length:Int)≤16) by unfold dp;rw [HOK.out];rfl)
   go_wp2
   go_ret
   exact ⟨am HL.out.symm,xw⟩
set_option maxRecDepth 100000 in
set_option maxHeartbeats 1600000 in
theorem kI (lo hi:Nat) (v:Value) (l:List ByteArray) (w:World) (h:yg lo hi w v l) :
 Calls Tryz.prog 180 #[v] w fun e w'=>e=.returned (.bool (dp l))∧Ext w w':=by
 obtain ⟨a,k,rfl,g1,g2,g3,g4⟩:=h
 unfold maxLen at g2
 go_enter Tryz.func180,Tryz.ntmps180
 go_wp2
 go_loopw [3] (fun c wr=>∃i:Nat,c=.int .i64 i∧i≤l.length∧(List.range i).all (yD l)=true∧Ext w wr) (fun c _=>l.length - (intOf c).toNat)
 case atStart=>exact ⟨0,rfl,Nat.zero_le _,rfl,xw⟩
 case round=>
  obtain ⟨i,rfl,hi',hok,hx⟩:=hrel
  have HOK:=Lib.hid hok
  clear hok
  by_cases hlt:i<l.length
  ·rcases g4 with g4|⟨b,o,rfl,gb1,gb2,g4⟩
   ·subst g4;simp at hlt
   obtain ⟨cs,hl,⟨rfl,e1⟩,hc⟩:=g4 i hlt
   have q0:=hx.keep (hc 0 _ rfl)
   rw [Nat.mul_one,Nat.add_zero] at q0
   clear hc
   have hbad:=pB l i hlt
   have HA:=Lib.hid (rq l i hlt)
   have HS:=Lib.hid (bM (yD l) i)
   by_cases hn:i=0
   ·subst hn
    simp only [Nat.add_zero] at q0
    cases ha:dD l[0]
    have Ha:=Lib.hid ha;clear ha
    have HB:=Lib.hid (hbad (by rw [HA.out];simp [Ha.out]))
    clear hbad
    have isF:=trivial
    rotate_left
    have Ha:=Lib.hid ha;clear ha
    have HG:=Lib.hid (show yD l 0=true by rw [HA.out];simp [Ha.out])
    clear hbad
    have isP:=trivial
    all_goals go_wp2_with fail
    all_goals
     refine wp_region_held_drew (S:=(fun w'=>Ext wr w')) (by kernel_rfl) ?_ (fun hHeld=>?_)
     ·refine xw
     refine tkP 0 ?_ ?_ ?_;rotate_left;focus (intro w;go_simp;try with_reducible rfl)
     try simp only [Act.put,aj]
     refine tkP 1 ?_ ?_ ?_;rotate_left;focus (intro w;go_simp;try with_reducible rfl)
     try simp only [Act.put,aj]
     refine tkP 2 ?_ ?_ ?_;rotate_left;focus (intro w;go_simp;try with_reducible rfl)
     try simp only [Act.put,aj]
     refine tkY 3 ?_ ?_ ?_;rotate_left;focus (intro w hSw;(try dsimp only at hSw);have sx:=hSw;have s_q0:=Ext.keep sx q0;go_simp;try with_reducible rfl)
     try simp only [Act.put,aj]
     refine wpAnyH_ready (rs:=[4]) (by kernel_rfl) (by simp) ?_
     refine AllReadyH.cons rfl (fun K hK=>?_) AllReadyH.nil
     (try simp only [aj])
     go_simp
     (go_at_call 179;(refine (ja _ _ e1).mono ?_);rintro e y ⟨rfl,hb⟩;rw [Ha.out])
     show K _ _
     refine hK.out _ _ (by (have hh:=hHeld;(try dsimp only at hh);exact hh.trans hb)) (fun hHeld=>?_)
     clear hK K
     try simp only [Act.put,aj]
     refine tkP 5 ?_ ?_ ?_;rotate_left;focus (intro w;go_simp;try with_reducible rfl)
     try simp only [Act.put,aj]
     refine tkP 6 ?_ ?_ ?_;rotate_left;focus (intro w;go_simp;try with_reducible rfl)
     try simp only [Act.put,aj]
     first|refine tkN 7 ?_|(refine tkP 7 ?_ ?_ ?_;rotate_left;focus (intro w;go_simp;try with_reducible rfl))
     try simp only [Act.put,aj]
     first|refine tkN 8 ?_|(refine tkP 8 ?_ ?_ ?_;rotate_left;focus (intro w;go_simp;try with_reducible rfl))
     try simp only [Act.put,aj]
     first|refine tkN 9 ?_|(refine tkP 9 ?_ ?_ ?_;rotate_left;focus (intro w;go_simp;try with_reducible rfl))
     try simp only [Act.put,aj]
     first|refine tkN 10 ?_|(refine tkP 10 ?_ ?_ ?_;rotate_left;focus (intro w;go_simp;try with_reducible rfl))
     try simp only [Act.put,aj]
     first|refine tkN 11 ?_|(refine tkP 11 ?_ ?_ ?_;rotate_left;focus (intro w;go_simp;try with_reducible rfl))
     try simp only [Act.put,aj]
     first|refine tkN 12 ?_|(refine tkP 12 ?_ ?_ ?_;rotate_left;focus (intro w;go_simp;try with_reducible rfl))
     try simp only [Act.put,aj]
     first|refine tkN 13 ?_|(refine tkP 13 ?_ ?_ ?_;rotate_left;focus (intro w;go_simp;try with_reducible rfl))
     try simp only [Act.put,aj]
     first|refine tkN 14 ?_|(refine tkY 14 ?_ ?_ ?_;rotate_left;focus (intro w hSw;(try dsimp only at hSw);have sx:=hSw;have s_q0:=Ext.keep sx q0;go_simp;try with_reducible rfl))
     try simp only [Act.put,aj]
     first|refine tkN 15 ?_|(refine tkP 15 ?_ ?_ ?_;rotate_left;focus (intro w;go_simp;try with_reducible rfl))
     try simp only [Act.put,aj]
     first|refine tkN 16 ?_|(refine tkP 16 ?_ ?_ ?_;rotate_left;focus (intro w;go_simp;try with_reducible rfl))
     try simp only [Act.put,aj]
     first|refine tkN 17 ?_|(refine tkP 17 ?_ ?_ ?_;rotate_left;focus (intro w;go_simp;try with_reducible rfl))
     try simp only [Act.put,aj]
     first|refine tkN 18 ?_|(refine tkY 18 ?_ ?_ ?_;rotate_left;focus (intro w hSw;(try dsimp only at hSw);have sx:=hSw;have s_q0:=Ext.keep sx q0;go_simp;try with_reducible rfl))
     try simp only [Act.put,aj]
     first|refine tkN 19 ?_|(refine tkP 19 ?_ ?_ ?_;rotate_left;focus (intro w;go_simp;try with_reducible rfl))
     try simp only [Act.put,aj]
     first|refine tkN 20 ?_|(refine tkP 20 ?_ ?_ ?_;rotate_left;focus (intro w;go_simp;try with_reducible rfl))
     try simp only [Act.put,aj]
     refine tkP 21 ?_ ?_ ?_;rotate_left;focus (intro w;go_simp;try with_reducible rfl)
     try simp only [Act.put,aj]
     refine wpAnyH_done (by kernel_rfl) ?_ _
    all_goals go_wp2
    all_goals first|(have:=isF;all_goals go_ret;all_goals exact ⟨am HB.out.symm,xw⟩)|(have:=isP;all_goals go_roundw;(case rel=>exact ⟨1,rfl,by omega,by rw [HS.out,HOK.out,HG.out];rfl,xw⟩);all_goals (simp only [intOf];omega))
   ·obtain ⟨j,rfl⟩:∃j,i=j+1:=⟨i - 1,by omega⟩
    obtain ⟨ds,hdl,⟨rfl,d1⟩,hd⟩:=g4 j (by omega)
    have r0:=hx.keep (hd 0 _ rfl)
    rw [Nat.mul_one,Nat.add_zero] at r0
    have hg:l.getD j ⟨#[]⟩=l[j]:=by rw [List.getD_eq_getElem?_getD,List.getElem?_eq_getElem (by omega)];rfl
    have HG:=Lib.hid hg
    have HSL:dh l[j] l[j+1]=Op.bytesLess l[j].toList l[j+1].toList:=by unfold dh;rfl
    have jw:=IntWalk.i64_in (((j+1:Nat):Int) - 1) (by omega)
    have je:((j+1:Nat):Int) - 1=j:=by omega
    have jlt:j<l.length:=by omega
    have jw3:=IntWalk.i64_in (j:Int) (by omega)
    have jp3:(0:Int)≤(j:Int):=by omega
    have jp4:(j:Int)<l.length:=by omega
    have jp:0≤(j:Int)+1:=by omega
    have jp2:(j:Int)+1<l.length:=by omega
    have HSE:=Lib.hid HSL
    clear hd hg g4 HSL
    have Hb:=Lib.hid trivial
    cases ha:dD l[j+1]
    have Ha:=Lib.hid ha;clear ha
    have HB:=Lib.hid (hbad (by rw [HA.out,show j+1 - 1=j by omega,HG.out,HSE.out];simp [Ha.out]))
    clear hbad
    have isF:=trivial
    rotate_left
    have Ha:=Lib.hid ha;clear ha
    cases hb:Op.bytesLess l[j].toList l[j+1].toList
    have Hb:=Lib.hid hb
    have HB:=Lib.hid (hbad (by rw [HA.out,show j+1 - 1=j by omega,HG.out,HSE.out];simp [Ha.out,Hb.out]))
    clear hbad
    have isF:=trivial
    rotate_left
    have Hb:=Lib.hid hb
    have HG2:=Lib.hid (show yD l (j+1)=true by rw [HA.out,show j+1 - 1=j by omega,HG.out,HSE.out];simp [Ha.out,Hb.out])
    clear hbad
    have isP:=trivial
    all_goals go_wp2_with fail
    all_goals
     refine wp_region_held_drew (S:=(fun w'=>Ext wr w')) (by kernel_rfl) ?_ (fun hHeld=>?_)
     ·refine xw
     refine tkP 0 ?_ ?_ ?_;rotate_left;focus (intro w;go_simp;try with_reducible rfl)
     try simp only [Act.put,aj]
     refine tkP 1 ?_ ?_ ?_;rotate_left;focus (intro w;go_simp;try with_reducible rfl)
     try simp only [Act.put,aj]
     refine tkP 2 ?_ ?_ ?_;rotate_left;focus (intro w;go_simp;try with_reducible rfl)
     try simp only [Act.put,aj]
     refine tkY 3 ?_ ?_ ?_;rotate_left;focus (intro w hSw;(try dsimp only at hSw);have sx:=hSw;have s_q0:=Ext.keep sx q0;have s_r0:=Ext.keep sx r0;go_simp;try with_reducible rfl)
     try simp only [Act.put,aj]
     refine wpAnyH_ready (rs:=[4]) (by kernel_rfl) (by simp) ?_
     refine AllReadyH.cons rfl (fun K hK=>?_) AllReadyH.nil
     (try simp only [aj])
     go_simp
     (go_at_call 179;(refine (ja _ _ e1).mono ?_);rintro e y ⟨rfl,hb⟩;rw [Ha.out])
     show K _ _
     refine hK.out _ _ (by (have hh:=hHeld;(try dsimp only at hh);exact hh.trans hb)) (fun hHeld=>?_)
     clear hK K
     try simp only [Act.put,aj]
     refine tkP 5 ?_ ?_ ?_;rotate_left;focus (intro w;go_simp;try with_reducible rfl)
     try simp only [Act.put,aj]
     refine tkP 6 ?_ ?_ ?_;rotate_left;focus (intro w;go_simp;try with_reducible rfl)
     try simp only [Act.put,aj]
     first|refine tkN 7 ?_|(refine tkP 7 ?_ ?_ ?_;rotate_left;focus (intro w;go_simp;try with_reducible rfl))
     try simp only [Act.put,aj]
     first|refine tkN 8 ?_|(refine tkP 8 ?_ ?_ ?_;rotate_left;focus (intro w;go_simp;try with_reducible rfl))
     try simp only [Act.put,aj]
     first|refine tkN 9 ?_|(refine tkP 9 ?_ ?_ ?_;rotate_left;focus (intro w;go_simp;try with_reducible rfl))
     try simp only [Act.put,aj]
     first|refine tkN 10 ?_|(refine tkP 10 ?_ ?_ ?_;rotate_left;focus (intro w;go_simp;try with_reducible rfl))
     try simp only [Act.put,aj]
     first|refine tkN 11 ?_|(refine tkP 11 ?_ ?_ ?_;rotate_left;focus (intro w;go_simp;try with_reducible rfl))
     try simp only [Act.put,aj]
     first|refine tkN 12 ?_|(refine tkP 12 ?_ ?_ ?_;rotate_left;focus (intro w;go_simp;try with_reducible rfl))
     try simp only [Act.put,aj]
     first|refine tkN 13 ?_|(refine tkP 13 ?_ ?_ ?_;rotate_left;focus (intro w;go_simp;try with_reducible rfl))
     try simp only [Act.put,aj]
     first|refine tkN 14 ?_|(refine tkY 14 ?_ ?_ ?_;rotate_left;focus (intro w hSw;(try dsimp only at hSw);have sx:=hSw;have s_q0:=Ext.keep sx q0;have s_r0:=Ext.keep sx r0;go_simp;try with_reducible rfl))
     try simp only [Act.put,aj]
     first|refine tkN 15 ?_|(refine tkP 15 ?_ ?_ ?_;rotate_left;focus (intro w;go_simp;try with_reducible rfl))
     try simp only [Act.put,aj]
     first|refine tkN 16 ?_|(refine tkP 16 ?_ ?_ ?_;rotate_left;focus (intro w;go_simp;try with_reducible rfl))
     try simp only [Act.put,aj]
     first|refine tkN 17 ?_|(refine tkP 17 ?_ ?_ ?_;rotate_left;focus (intro w;go_simp;try with_reducible rfl))
     try simp only [Act.put,aj]
     first|refine tkN 18 ?_|(refine tkY 18 ?_ ?_ ?_;rotate_left;focus (intro w hSw;(try dsimp only at hSw);have sx:=hSw;have s_q0:=Ext.keep sx q0;have s_r0:=Ext.keep sx r0;go_simp;try with_reducible rfl))
     try simp only [Act.put,aj]
     first|refine tkN 19 ?_|(refine tkP 19 ?_ ?_ ?_;rotate_left;focus (intro w;go_simp;try with_reducible rfl))
     try simp only [Act.put,aj]
     first|refine tkN 20 ?_|(refine tkP 20 ?_ ?_ ?_;rotate_left;focus (intro w;go_simp;try with_reducible rfl))
     try simp only [Act.put,aj]
     refine tkP 21 ?_ ?_ ?_;rotate_left;focus (intro w;go_simp;try with_reducible rfl)
     try simp only [Act.put,aj]
     refine wpAnyH_done (by kernel_rfl) ?_ _
    all_goals go_wp2
    all_goals first|(have:=isF;all_goals go_ret;all_goals exact ⟨am HB.out.symm,xw⟩)|(have:=isP;all_goals go_roundw;(case rel=>exact ⟨j+1+1,rfl,by omega,by rw [HS.out,HOK.out,HG2.out];rfl,xw⟩);all_goals (simp only [intOf];omega))
  ·have e:i=l.length:=by omega
   subst e
   have HL:=Lib.hid (show dp l=decide ((l.length:Int)≤16) by unfold dp;rw [HOK.out];rfl)
   go_wp2
   go_ret
   exact ⟨am HL.out.symm,xw⟩
end Go.Proofs.YtclpbhoekmecjaaGreatDoor
namespace Go.Proofs.YtclpbhoekmecjaaGreatDoor
open Go.RowKit
set_option linter.unusedVariables false
set_option linter.unusedSimpArgs false
def tK (sig:List Ctl) (k:Int):Ctl:=sig.getD k.toNat ⟨⟨#[]⟩,0,0⟩
def eA (b:Big) (k:Int):Nd:=b.nodes.getD k.toNat ⟨0,0,[]⟩
def dB (sig:List Ctl) (b:Big) (p below:Int):Bool:=if p<0 then decide (-b.roots≤p) else decide (p<below) && !(decide ((tK sig (eA b p).control).kind=2))
def dJ (b:Big) (l:Int):Bool:=inR l 0 (b.edges+b.outer.length - 1)
def Br (sig:List Ctl) (b:Big) (n:Int):Prop:=∀i (h:i<b.nodes.length),(i:Int)<n→0≤b.nodes[i].control∧b.nodes[i].control<sig.length
theorem aA (b:Big) (i:Nat) (h:i<b.nodes.length):eA b i=b.nodes[i]:=by
 unfold eA;rw [Int.toNat_natCast,List.getD_eq_getElem?_getD,List.getElem?_eq_getElem h];rfl
theorem i8 (sig:List Ctl) (i:Nat) (h:i<sig.length):tK sig i=sig[i]:=by
 unfold tK;rw [Int.toNat_natCast,List.getD_eq_getElem?_getD,List.getElem?_eq_getElem h];rfl
theorem qg {sig:List Ctl} {b:Big} {p below:Int} (h:p<0):dB sig b p below=decide (-b.roots≤p):=if_pos h
theorem ut {sig:List Ctl} {b:Big} {p below:Int} (h:p<0) (h2:I64 p):inR (-1 - p) 0 (b.roots - 1)=dB sig b p below:=by
 rw [qg h];unfold inR;rw [Bool.eq_iff_iff];simp;omega
theorem pL {sig:List Ctl} {b:Big} {p below:Int} (h:¬p<0):dB sig b p below=(decide (p<below) && !(decide ((tK sig (eA b p).control).kind=2))):=if_neg h
theorem pF (xs:List Wr) (i:Nat) (h:i<xs.length):(xs.take (i+1)).map Wr.name=(xs.take i).map Wr.name++[xs[i].name]:=by
 rw [List.take_succ_eq_append_getElem h,List.map_append];rfl
theorem wW {α β:Type} (f:α→β) (xs:List α) (i:Nat) (h:i≤xs.length):((xs.take i).map f).length=i:=by simp;omega
attribute [local irreducible] inR dD dh
set_option maxRecDepth 100000 in
set_option maxHeartbeats 1600000 in
theorem iE (lo hi:Nat) (cs:List Value) (b:Big) (w:World) (h:bW lo hi w cs b) (hlen:b.inner.length≤1048576) :
 Calls Tryz.prog 146 #[.agg cs.toArray] w fun e w'=>∃v,e=.returned v∧SlV 1 dv w.heap.size w'.heap.size w' v (b.inner.map Wr.name)∧Ext w w':=by
 obtain ⟨v1,v2,v4,v5,rfl,r1,r2,hN,hS,hO,hI⟩:=h
 obtain ⟨a5,k5,rfl,g1,g2,g3,g4⟩:=hI
 unfold maxLen at g2
 obtain ⟨i0,hi0,hz0,hz1,hz2⟩:=info_parts qF
 obtain ⟨W0,hW0,hbx,hx0,hz⟩:=aN w [.int .i64 b.roots,v1,v2,.int .i64 b.edges,v4,.slice a5 b.inner.length k5] 40
 have p5:=(hbx 5 _ rfl).1
 have hrow0:fd 1 dv 9 W0.heap.size (W0.alloc (.cells #[] 9)) (.slice (some ⟨W0.heap.size,0,none⟩) 0 0) []:=fd.made (Nat.le_refl _)
 have hz':w.heap.size<W0.heap.size:=by omega
 clear hz
 go_enter Tryz.func146,Tryz.ntmps146
 go_wp2
 go_loopw [10,3] (fun c v wr=>∃i:Nat,c=.int .i64 i∧i≤b.inner.length∧fd 1 dv 9 W0.heap.size wr v ((b.inner.take i).map Wr.name)∧Ext W0 wr) (fun c _ _=>b.inner.length - (intOf c).toNat)
 case atStart=>exact ⟨0,rfl,Nat.zero_le _,by simpa using hrow0,xw⟩
 case round=>
  obtain ⟨i,rfl,hi',hrow,hx⟩:=hrel
  replace p5:=hx.keep p5
  have hX:Ext w wr:=xw
  by_cases hlt:i<b.inner.length
  ·rcases g4 with g4|⟨b',o,rfl,gb1,gb2,g4⟩
   ·rw [g4] at hlt;simp at hlt
   obtain ⟨cs,hl,⟨rfl,e1,e2⟩,hc⟩:=g4 i hlt
   have q0:=hX.keep (hc 0 _ rfl)
   have q1:=hX.keep (hc 1 _ rfl)
   rw [Nat.add_zero] at q0
   clear hc g4
   have HT:=Lib.hid (pF b.inner i hlt)
   have HL:=Lib.hid (wW Wr.name b.inner i hi')
   have hsz:=Below.size hx
   go_wp2_with (at_builtin;refine iV dv.keeps rfl (.tmp 14) (.tmp 17) 26 rfl (W0.heap.size) 9 i0 _ 16 Tryz.underlying26 hi0 hz0 hz1 hz2 rfl (by decide) _ _ (by rfl) (hrow.ext dv.keeps xw) ⟨wr.heap.size+1,0,none⟩ 1 [.string b.inner[i].name] rfl rfl (fG (by simp)) (by simp [Value.oneCell']) (W0.heap.size) (W0.heap.size) (Nat.le_refl _) (by first|omega|(simp;omega)) (fun g hg=>.inr (hrow.block g hg).1) (b.inner[i].name) ⟨rfl,e1⟩ (by first|omega|(simp;omega)) (by decide) (by first|omega|(simp;omega)) ?_;intro v3 w3 row3 ext3)
   have hx3:=ext3 W0 xw (Nat.le_refl _)
   go_roundw
   case rel=>exact ⟨i+1,rfl,by omega,by rw [HT.out];exact row3,xw⟩
   ·simp only [intOf];omega
  ·have HT:=Lib.hid (show b.inner.take i=b.inner from List.take_of_length_le (by omega))
   go_wp2
   go_ret
   rw [HT.out] at hrow
   exact ⟨_,rfl,hrow.toSlV dv.widens (by omega),hX⟩
set_option maxRecDepth 100000 in
set_option maxHeartbeats 1600000 in
theorem pw (lo hi:Nat) (cs:List Value) (b:Big) (w:World) (h:bW lo hi w cs b) (hlen:b.inner.length≤1048576) :
 Calls Tryz.prog 181 #[.agg cs.toArray] w fun e w'=>∃v,e=.returned v∧SlV 1 dv w.heap.size w'.heap.size w' v (b.inner.map Wr.name)∧Ext w w':=by
 obtain ⟨v1,v2,v4,v5,rfl,r1,r2,hN,hS,hO,hI⟩:=h
 obtain ⟨a5,k5,rfl,g1,g2,g3,g4⟩:=hI
 unfold maxLen at g2
 obtain ⟨i0,hi0,hz0,hz1,hz2⟩:=info_parts qF
 obtain ⟨W0,hW0,hbx,hx0,hz⟩:=aN w [.int .i64 b.roots,v1,v2,.int .i64 b.edges,v4,.slice a5 b.inner.length k5] 40
 have p5:=(hbx 5 _ rfl).1
 have hrow0:fd 1 dv 9 W0.heap.size (W0.alloc (.cells #[] 9)) (.slice (some ⟨W0.heap.size,0,none⟩) 0 0) []:=fd.made (Nat.le_refl _)
 have hz':w.heap.size<W0.heap.size:=by omega
 clear hz
 go_enter Tryz.func181,Tryz.ntmps181
 go_wp2
 go_loopw [3,4] (fun v c wr=>∃i:Nat,c=.int .i64 i∧i≤b.inner.length∧fd 1 dv 9 W0.heap.size wr v ((b.inner.take i).map Wr.name)∧Ext W0 wr) (fun _ c _=>b.inner.length - (intOf c).toNat)
 case atStart=>exact ⟨0,rfl,Nat.zero_le _,by simpa using hrow0,xw⟩
 case round=>
  obtain ⟨i,rfl,hi',hrow,hx⟩:=hrel
  replace p5:=hx.keep p5
  have hX:Ext w wr:=xw
  by_cases hlt:i<b.inner.length
  ·rcases g4 with g4|⟨b',o,rfl,gb1,gb2,g4⟩
   ·rw [g4] at hlt;simp at hlt
   obtain ⟨cs,hl,⟨rfl,e1,e2⟩,hc⟩:=g4 i hlt
   have q0:=hX.keep (hc 0 _ rfl)
   have q1:=hX.keep (hc 1 _ rfl)
   rw [Nat.add_zero] at q0
   clear hc g4
   have HT:=Lib.hid (pF b.inner i hlt)
   have HL:=Lib.hid (wW Wr.name b.inner i hi')
   have hsz:=Below.size hx
   go_wp2_with (at_builtin;refine iV dv.keeps rfl (.tmp 13) (.tmp 20) 26 rfl (W0.heap.size) 9 i0 _ 16 Tryz.underlying26 hi0 hz0 hz1 hz2 rfl (by decide) _ _ (by rfl) (hrow.ext dv.keeps xw) ⟨wr.heap.size,0,none⟩ 1 [.string b.inner[i].name] rfl rfl (fG (by simp)) (by simp [Value.oneCell']) (W0.heap.size) (W0.heap.size) (Nat.le_refl _) (by first|omega|(simp;omega)) (fun g hg=>.inr (hrow.block g hg).1) (b.inner[i].name) ⟨rfl,e1⟩ (by first|omega|(simp;omega)) (by decide) (by first|omega|(simp;omega)) ?_;intro v3 w3 row3 ext3)
   have hx3:=ext3 W0 xw (Nat.le_refl _)
   go_roundw
   case rel=>exact ⟨i+1,rfl,by omega,by rw [HT.out];exact row3,xw⟩
   ·simp only [intOf];omega
  ·have HT:=Lib.hid (show b.inner.take i=b.inner from List.take_of_length_le (by omega))
   go_wp2
   go_ret
   rw [HT.out] at hrow
   exact ⟨_,rfl,hrow.toSlV dv.widens (by omega),hX⟩
theorem fL (lo hi:Nat) (cs:List Value) (b:Big) (l:Int) (w:World) (h:bW lo hi w cs b) (he:inR b.edges 0 8=true) (ho:b.outer.length≤1000) :
 Calls Tryz.prog 149 #[.agg cs.toArray,.int .i64 l] w fun e w'=>e=.returned (.bool (dJ b l))∧Ext w w':=by
 obtain ⟨v1,v2,v4,v5,rfl,r1,r2,hN,hS,hO,hI⟩:=h
 obtain ⟨a4,k4,rfl,g1,g2,g3,g4⟩:=hO
 have he':=bL he
 unfold maxLen at g2
 clear he
 obtain ⟨W0,hW0,hbx,hx0,hz⟩:=aN w [.int .i64 b.roots,v1,v2,.int .i64 b.edges,.slice a4 b.outer.length k4,v5] 40
 have p3:=(hbx 3 _ rfl).1
 have p4:=(hbx 4 _ rfl).1
 clear hz g4 hbx
 go_enter Tryz.func149,Tryz.ntmps149
 go_wp2_with (go_at_call 58;refine (aP _ _ _ _).mono ?_;rintro e y ⟨rfl,rfl⟩)
 go_ret
 exact ⟨rfl,hx0⟩
theorem lH (lo hi:Nat) (cs:List Value) (b:Big) (l:Int) (w:World) (h:bW lo hi w cs b) (he:inR b.edges 0 8=true) (ho:b.outer.length≤1000) :
 Calls Tryz.prog 184 #[.agg cs.toArray,.int .i64 l] w fun e w'=>e=.returned (.bool (dJ b l))∧Ext w w':=by
 obtain ⟨v1,v2,v4,v5,rfl,r1,r2,hN,hS,hO,hI⟩:=h
 obtain ⟨a4,k4,rfl,g1,g2,g3,g4⟩:=hO
 have he':=bL he
 unfold maxLen at g2
 clear he
 obtain ⟨W0,hW0,hbx,hx0,hz⟩:=aN w [.int .i64 b.roots,v1,v2,.int .i64 b.edges,.slice a4 b.outer.length k4,v5] 40
 have p3:=(hbx 3 _ rfl).1
 have p4:=(hbx 4 _ rfl).1
 clear hz g4 hbx
 go_enter Tryz.func184,Tryz.ntmps184
 go_wp2_with (go_at_call 86;refine (bU _ _ _ _).mono ?_;rintro e y ⟨rfl,rfl⟩)
 go_ret
 exact ⟨rfl,hx0⟩
set_option maxHeartbeats 800000 in
theorem bQ (lo hi lo' hi':Nat) (v:Value) (sig:List Ctl) (cs:List Value) (b:Big) (p below:Int) (w:World) (hV:lu lo hi w v sig) (h:bW lo' hi' w cs b) (hp:I64 p) (hr:inR b.roots 0 4=true) (hb0:below≤b.nodes.length) (hc:Br sig b below) :
 Calls Tryz.prog 147 #[.agg cs.toArray,v,.int .i64 p,.int .i64 below] w fun e w'=>e=.returned (.bool (dB sig b p below))∧Ext w w':=by
 obtain ⟨v1,v2,v4,v5,rfl,r1,r2,hN,hS,hO,hI⟩:=h
 obtain ⟨a1,k1,rfl,g1,g2,g3,g4⟩:=hN
 obtain ⟨a,k,rfl,m1,m2,m3,m4⟩:=hV
 have hr':=bL hr
 unfold maxLen at g2 m2
 clear hr
 obtain ⟨W0,hW0,hbx,hx0,hz⟩:=aN w [.int .i64 b.roots,.slice a1 b.nodes.length k1,v2,.int .i64 b.edges,v4,v5] 40
 have p0:=(hbx 0 _ rfl).1
 have p1:=(hbx 1 _ rfl).1
 clear hz hbx
 by_cases hn:p<0
 ·have HU:=Lib.hid (qg (sig:=sig) (b:=b) (below:=below) hn)
  go_enter Tryz.func147,Tryz.ntmps147
  go_wp2
  go_ret
  exact ⟨am HU.out.symm,hx0⟩
 ·have HU:=Lib.hid (pL (sig:=sig) (b:=b) (below:=below) hn)
  by_cases hlt:p<below
  ·obtain ⟨n,rfl⟩:=Int.eq_ofNat_of_zero_le (show 0≤p by omega)
   have hnl:n<b.nodes.length:=by omega
   obtain ⟨c1,c2⟩:=hc n hnl hlt
   rcases g4 with g4|⟨b1,o1,rfl,gb1,gb2,g4⟩
   ·rw [g4] at hnl;simp at hnl
   obtain ⟨cs,hl,⟨nv,rfl,e1,e2,e3⟩,hcs⟩:=g4 n hnl
   have q0:=hx0.keep (hcs 0 _ rfl)
   rw [Nat.add_zero] at q0
   obtain ⟨m,hm⟩:=Int.eq_ofNat_of_zero_le c1
   have hml:m<sig.length:=by omega
   rcases m4 with m4|⟨b2,o2,rfl,mb1,mb2,m4⟩
   ·rw [m4] at hml;simp at hml
   obtain ⟨ds,dl,⟨rfl,d1,d2,d3⟩,hds⟩:=m4 m hml
   have s2:=hx0.keep (hds 2 _ rfl)
   have HK:=Lib.hid (show tK sig (eA b (n:Int)).control=sig[m] by rw [aA b n hnl,hm,i8 sig m hml])
   rw [hm] at q0
   clear hm hcs hds g4 m4 c1 c2 hc
   have dd:decide ((n:Int)<below)=true:=decide_eq_true hlt
   go_enter Tryz.func147,Tryz.ntmps147
   go_wp2
   go_ret
   exact ⟨am (by rw [HU.out,HK.out,dd];by_cases hh:sig[m].kind=2 <;> simp [hh]),hx0⟩
  ·have dd:decide (p<below)=false:=decide_eq_false hlt
   go_enter Tryz.func147,Tryz.ntmps147
   go_wp2
   go_ret
   exact ⟨am (by rw [HU.out,dd];rfl),hx0⟩
set_option maxHeartbeats 800000 in
theorem fF (lo hi lo' hi':Nat) (v:Value) (sig:List Ctl) (cs:List Value) (b:Big) (p below:Int) (w:World) (hV:lu lo hi w v sig) (h:bW lo' hi' w cs b) (hp:I64 p) (hr:inR b.roots 0 4=true) (hb0:below≤b.nodes.length) (hc:Br sig b below) :
 Calls Tryz.prog 183 #[v,.agg cs.toArray,.int .i64 p,.int .i64 below] w fun e w'=>e=.returned (.bool (dB sig b p below))∧Ext w w':=by
 obtain ⟨v1,v2,v4,v5,rfl,r1,r2,hN,hS,hO,hI⟩:=h
 obtain ⟨a1,k1,rfl,g1,g2,g3,g4⟩:=hN
 obtain ⟨a,k,rfl,m1,m2,m3,m4⟩:=hV
 have hr':=bL hr
 unfold maxLen at g2 m2
 clear hr
 have hp0:=hp
 unfold I64 at hp
 obtain ⟨W0,hW0,hbx,hx0,hz⟩:=aN w [.int .i64 b.roots,.slice a1 b.nodes.length k1,v2,.int .i64 b.edges,v4,v5] 40
 have p0:=(hbx 0 _ rfl).1
 have p1:=(hbx 1 _ rfl).1
 clear hz hbx
 by_cases hn:p<0
 ·have HU:=Lib.hid (ut (sig:=sig) (b:=b) (below:=below) hn hp0)
  go_enter Tryz.func183,Tryz.ntmps183
  go_wp2_with (go_at_call 86;refine (bU _ _ _ _).mono ?_;rintro e y ⟨rfl,rfl⟩)
  go_ret
  exact ⟨am HU.out,hx0⟩
 ·have HU:=Lib.hid (pL (sig:=sig) (b:=b) (below:=below) hn)
  by_cases hlt:p<below
  ·obtain ⟨n,rfl⟩:=Int.eq_ofNat_of_zero_le (show 0≤p by omega)
   have hnl:n<b.nodes.length:=by omega
   obtain ⟨c1,c2⟩:=hc n hnl hlt
   rcases g4 with g4|⟨b1,o1,rfl,gb1,gb2,g4⟩
   ·rw [g4] at hnl;simp at hnl
   obtain ⟨cs,hl,⟨nv,rfl,e1,e2,e3⟩,hcs⟩:=g4 n hnl
   have q0:=hx0.keep (hcs 0 _ rfl)
   rw [Nat.add_zero] at q0
   obtain ⟨m,hm⟩:=Int.eq_ofNat_of_zero_le c1
   have hml:m<sig.length:=by omega
   rcases m4 with m4|⟨b2,o2,rfl,mb1,mb2,m4⟩
   ·rw [m4] at hml;simp at hml
   obtain ⟨ds,dl,⟨rfl,d1,d2,d3⟩,hds⟩:=m4 m hml
   have s2:=hx0.keep (hds 2 _ rfl)
   have HK:=Lib.hid (show tK sig (eA b (n:Int)).control=sig[m] by rw [aA b n hnl,hm,i8 sig m hml])
   rw [hm] at q0
   clear hm hcs hds g4 m4 c1 c2 hc
   have dd:decide ((n:Int)<below)=true:=decide_eq_true hlt
   go_enter Tryz.func183,Tryz.ntmps183
   go_wp2
   go_ret
   exact ⟨am (by rw [HU.out,HK.out,dd];by_cases hh:sig[m].kind=2 <;> simp [hh]),hx0⟩
  ·have dd:decide (p<below)=false:=decide_eq_false hlt
   go_enter Tryz.func183,Tryz.ntmps183
   go_wp2
   go_ret
   exact ⟨am (by rw [HU.out,dd];rfl),hx0⟩
theorem ip (lo hi B:Nat) (cs:List Value) (b:Big) (l:Int) (w:World) (h:bW lo hi w cs b) (he:inR b.edges 0 8=true) (ho:b.outer.length≤1000) (hbx:∀j u,cs[j]? = some u→w.cell? ⟨B,j,none⟩=some u) :
 Calls Tryz.prog 148 #[.int .i64 l,.pointer (some ⟨B,0,none⟩)] w fun e w'=>e=.returned (.bool (!(dJ b l)))∧Ext w w':=by
 have hB:=h
 obtain ⟨v1,v2,v4,v5,rfl,r1,r2,hN,hS,hO,hI⟩:=h
 have p0:=hbx 0 _ rfl
 have p1:=hbx 1 _ rfl
 have p2:=hbx 2 _ rfl
 have p3:=hbx 3 _ rfl
 have p4:=hbx 4 _ rfl
 have p5:=hbx 5 _ rfl
 clear hbx
 go_enter Tryz.func148,Tryz.ntmps148
 go_wp2_with (go_at_call 149;refine (fL lo hi [.int .i64 b.roots,v1,v2,.int .i64 b.edges,v4,v5] b l _ hB he ho).mono ?_;rintro e y ⟨rfl,hb⟩)
 go_ret
 exact ⟨rfl,hb⟩
theorem l9 (lo hi lo' hi' B B2:Nat) (v:Value) (sig:List Ctl) (cs:List Value) (b:Big) (p:Int) (w:World) (hV:lu lo' hi' w v sig) (h:bW lo hi w cs b) (hp:I64 p) (hr:inR b.roots 0 4=true) (hc:Br sig b b.nodes.length) (hbx:∀j u,cs[j]? = some u→w.cell? ⟨B,j,none⟩=some u) (hbs:w.cell? ⟨B2,0,none⟩=some v) :
 Calls Tryz.prog 150 #[.int .i64 p,.pointer (some ⟨B,0,none⟩),.pointer (some ⟨B2,0,none⟩)] w fun e w'=>e=.returned (.bool (!(dB sig b p b.nodes.length)))∧Ext w w':=by
 have hB:=h
 have hV':=hV
 obtain ⟨a,k,rfl,m1,m2,m3,m4⟩:=hV
 obtain ⟨v1,v2,v4,v5,rfl,r1,r2,hN,hS,hO,hI⟩:=h
 obtain ⟨a1,k1,rfl,g1,g2,g3,g4⟩:=hN
 have p0:=hbx 0 _ rfl
 have p1:=hbx 1 _ rfl
 have p2:=hbx 2 _ rfl
 have p3:=hbx 3 _ rfl
 have p4:=hbx 4 _ rfl
 have p5:=hbx 5 _ rfl
 unfold maxLen at g2
 clear hbx g4 m4
 go_enter Tryz.func150,Tryz.ntmps150
 go_wp2_with (go_at_call 147;refine (bQ lo' hi' lo hi _ sig [.int .i64 b.roots,.slice a1 b.nodes.length k1,v2,.int .i64 b.edges,v4,v5] b p _ _ hV' hB hp hr (by omega) hc).mono ?_;rintro e y ⟨rfl,hb⟩)
 go_ret
 exact ⟨rfl,hb⟩
theorem lr (lo hi B:Nat) (cs:List Value) (b:Big) (ds:List Value) (x:Wr) (w:World) (h:bW lo hi w cs b) (he:inR b.edges 0 8=true) (ho:b.outer.length≤1000) (hbx:∀j u,cs[j]? = some u→w.cell? ⟨B,j,none⟩=some u) (hx:WrP lo hi w ds x) :
 Calls Tryz.prog 152 #[.agg ds.toArray,.pointer (some ⟨B,0,none⟩)] w fun e w'=>e=.returned (.bool (!(dJ b x.link)))∧Ext w w':=by
 have hB:=h
 obtain ⟨v1,v2,v4,v5,rfl,r1,r2,hN,hS,hO,hI⟩:=h
 obtain ⟨rfl,e1,e2⟩:=hx
 obtain ⟨W0,hW0,hbx0,hx0,hz⟩:=aN w [.string x.name,.int .i64 x.link] 133
 have p0:=hx0.keep (hbx 0 _ rfl)
 have p1:=hx0.keep (hbx 1 _ rfl)
 have p2:=hx0.keep (hbx 2 _ rfl)
 have p3:=hx0.keep (hbx 3 _ rfl)
 have p4:=hx0.keep (hbx 4 _ rfl)
 have p5:=hx0.keep (hbx 5 _ rfl)
 have s1:=(hbx0 1 _ rfl).1
 replace hB:=bW.keeps _ _ _ _ _ _ (bV.ext hx0) hB
 clear hbx hbx0 hz
 go_enter Tryz.func152,Tryz.ntmps152
 go_wp2_with (go_at_call 149;refine (fL lo hi [.int .i64 b.roots,v1,v2,.int .i64 b.edges,v4,v5] b x.link _ hB he ho).mono ?_;rintro e y ⟨rfl,hb⟩)
 go_ret
 exact ⟨rfl,hx0.trans hb⟩
end Go.Proofs.YtclpbhoekmecjaaGreatDoor
namespace Go.Proofs.YtclpbhoekmecjaaGreatDoor
open Go.RowKit
set_option linter.unusedVariables false
set_option linter.unusedSimpArgs false
def ey (sig:List Ctl) (b:Big) (i:Nat):Bool:=match b.nodes[i]? with
 | none=>true
 | some n=>inR n.control 0 ((sig.length:Int) - 1) && (dB sig b n.parent i && (decide ((n.links.length:Int)=(tK sig n.control).ports) && n.links.all (dJ b)))
def mJ (sig:List Ctl) (b:Big):Bool:=kX sig && (inR b.roots 0 4 && (decide (b.nodes.length≤8) && (decide (b.sites.length≤4) && (inR b.edges 0 8 && (dp b.outer && dp (b.inner.map Wr.name))))))
def fe (sig:List Ctl) (b:Big) (p:Int):Bool:=dB sig b p b.nodes.length
def fM (b:Big) (x:Wr):Bool:=dJ b x.link
def ay (sig:List Ctl) (b:Big):Bool:=mJ sig b && ((List.range b.nodes.length).all (ey sig b) && (b.sites.all (fe sig b) && b.inner.all (fM b)))
theorem ma (sig:List Ctl) (b:Big) (i:Nat) (h:i<b.nodes.length):ey sig b i=(inR (b.nodes[i]).control 0 ((sig.length:Int) - 1) && (dB sig b (b.nodes[i]).parent i && (decide (((b.nodes[i]).links.length:Int)=(tK sig (b.nodes[i]).control).ports) && !((b.nodes[i]).links.any (fun l=>!(dJ b l)))))):=by
 unfold ey;rw [List.getElem?_eq_getElem h,iG,Bool.not_not]
theorem nM {sig:List Ctl} {b:Big} {n:Nat} (h:(List.range n).all (ey sig b)=true):Br sig b n:=by
 intro i hi hn
 have:=List.all_eq_true.1 h i (List.mem_range.2 (by omega))
 rw [ma sig b i hi] at this
 have:=bL (Bool.and_eq_true_iff.1 this).1
 omega
theorem eu {l:List ByteArray} (h:dp l=true):l.length≤16:=by
 unfold dp at h
 have:=(Bool.and_eq_true_iff.1 h).2
 simp at this;omega
theorem de {sig:List Ctl} {b:Big} (h:mJ sig b=true):kX sig=true∧inR b.roots 0 4=true∧b.nodes.length≤8∧b.sites.length≤4∧inR b.edges 0 8=true∧dp b.outer=true∧dp (b.inner.map Wr.name)=true:=by
 unfold mJ at h
 simp only [Bool.and_eq_true,decide_eq_true_eq] at h
 obtain ⟨a,b,c,d,e,f,g⟩:=h
 exact ⟨a,b,c,d,e,f,g⟩
theorem cN {sig:List Ctl} {b:Big} (h:ay sig b=true):mJ sig b=true∧(List.range b.nodes.length).all (ey sig b)=true∧b.sites.all (fe sig b)=true∧b.inner.all (fM b)=true:=by
 unfold ay at h
 simp only [Bool.and_eq_true] at h
 exact h
theorem k9 {sig:List Ctl} {b:Big} (h:mJ sig b=false):ay sig b=false:=by unfold ay;rw [h];rfl
theorem oV {sig:List Ctl} {b:Big} (i:Nat) (hi:i<b.nodes.length) (h:ey sig b i=false):ay sig b=false:=by unfold ay;rw [aT _ _ i hi h];simp
theorem jc {x y:Bool} (h:x = !y):y = !x:=by cases x <;> cases y <;> simp_all
theorem C2 (sig:List Ctl) (b:Big):b.sites.any (fun p=>!(dB sig b p b.nodes.length)) = !(b.sites.all (fe sig b)):=iG (fe sig b) b.sites
theorem Ce (b:Big):b.inner.any (fun x=>!(dJ b x.link)) = !(b.inner.all (fM b)):=iG (fM b) b.inner
end Go.Proofs.YtclpbhoekmecjaaGreatDoor
namespace Go.Proofs.YtclpbhoekmecjaaGreatDoor
open Go.RowKit
set_option linter.unusedVariables false
set_option linter.unusedSimpArgs false
theorem kf {n:Nat} (h:n≤100000000):I64 (n:Int):=by unfold I64;omega
theorem CT {v v':Value} {g H:Nat} (h:v'.ownBlock=v.ownBlock∨v'.ownBlock=some H) (h1:v.ownBlock≠some g) (h2:g<H):v'.ownBlock≠some g:=by
 rcases h with h|h
 ·rw [h];exact h1
 ·rw [h];intro e;cases e;omega
attribute [local irreducible] inR dD dh
set_option maxRecDepth 100000 in
set_option maxHeartbeats 1600000 in
theorem qQ (lo hi:Nat) (cs:List Value) (b:Big) (p:Int) (w:World) (h:bW lo hi w cs b) (hlen:b.nodes.length≤1048576) :
 Calls Tryz.prog 194 #[.agg cs.toArray,.int .i64 p] w fun e w'=>∃v,e=.returned v∧SlV 1 bS w.heap.size w'.heap.size w' v (eH b p)∧Ext w w':=by
 obtain ⟨v1,v2,v4,v5,rfl,r1,r2,hN,hS,hO,hI⟩:=h
 obtain ⟨aan,kn,rfl,n1,n2,n3,n4⟩:=hN
 unfold maxLen at n2
 obtain ⟨W0,hW0,hbx,hx0,hz⟩:=aN w [.int .i64 b.roots,.slice aan b.nodes.length kn,v2,.int .i64 b.edges,v4,v5] 40
 have pn:=(hbx 1 _ rfl).1
 have hzz:w.heap.size<W0.heap.size:=by omega
 clear hz hbx
 obtain ⟨i0,hi0,hz0,hz1,hz2⟩:=info_parts oR
 have hrow0:fd 1 bS 3 W0.heap.size (W0.alloc (.cells #[] 3)) (.slice (some ⟨W0.heap.size,0,none⟩) 0 0) []:=fd.made (Nat.le_refl _)
 go_enter Tryz.func194,Tryz.ntmps194
 go_wp2
 go_loopw [5,6] (fun v c wr=>∃i:Nat,c=.int .i64 i∧i≤b.nodes.length∧fd 1 bS 3 W0.heap.size wr v (idxOf (ph b p) i)∧Ext W0 wr) (fun _ c _=>b.nodes.length - (intOf c).toNat)
 case atStart=>exact ⟨0,rfl,Nat.zero_le _,hrow0,xw⟩
 case round=>
  obtain ⟨i,rfl,hi',hrow,hx⟩:=hrel
  replace pn:=hx.keep pn
  have hX:Ext w wr:=xw
  by_cases hlt:i<b.nodes.length
  ·have HF:=Lib.hid (Bp b p i hlt)
   rcases n4 with n4|⟨bn,on,rfl,nb1,nb2,n4⟩
   ·rw [n4] at hlt;simp at hlt
   obtain ⟨cs,hl,⟨nv,rfl,e1,e2,e3⟩,hc⟩:=n4 i hlt
   have q0:=hX.keep (hc 0 _ rfl)
   have q1:=hX.keep (hc 1 _ rfl)
   rw [Nat.add_zero] at q0
   clear hc n4
   have hsz:=Below.size hx
   have hL:=dF (ph b p) i
   by_cases hp:(b.nodes[i]).parent=p
   ·have ep:((b.nodes[i]).parent == p)=true:=beq_iff_eq.2 hp
    have HT:=Lib.hid (cY (f:=ph b p) (n:=i) (by rw [HF.out];simpa using hp))
    clear hp
    go_wp2_with (at_builtin;refine bF bS.keeps rfl (.tmp 23) (.tmp 25) 25 rfl (W0.heap.size) 3 i0 _ 8 Tryz.underlying25 hi0 hz0 hz1 hz2 rfl (by decide) _ _ (by rfl) (hrow.ext bS.keeps xw) ⟨wr.heap.size,0,none⟩ 1 [.int .i64 i] rfl rfl (fG (by simp)) (by simp [Value.oneCell']) (W0.heap.size) (W0.heap.size) (Nat.le_refl _) (by first|omega|(simp;omega)) (fun g hg=>.inr (hrow.block g hg).1) ((i:Int)) ⟨rfl,kf (by omega)⟩ (by first|omega|(simp;omega)) (by decide) (by first|omega|(simp;omega)) ?_;intro v3 w3 row3 ext3 gro3 own3)
    have hx3:=ext3 W0 xw (Nat.le_refl _)
    go_roundw
    case rel=>exact ⟨i+1,rfl,by omega,by rw [HT.out];exact row3,xw⟩
    ·simp only [intOf];omega
   ·have ep:((b.nodes[i]).parent == p)=false:=beq_eq_false_iff_ne.2 hp
    have HT:=Lib.hid (dL (f:=ph b p) (n:=i) (by rw [HF.out];simpa using hp))
    clear hp
    go_wp2
    go_roundw
    case rel=>exact ⟨i+1,rfl,by omega,by rw [HT.out];exact hrow,xw⟩
    ·simp only [intOf];omega
  ·have e:i=b.nodes.length:=by omega
   subst e
   go_wp2
   go_ret
   exact ⟨_,rfl,hrow.toSlV bS.widens (by omega),hX⟩
set_option maxRecDepth 100000 in
set_option maxHeartbeats 1600000 in
theorem py (lo hi:Nat) (cs:List Value) (b:Big) (p:Int) (w:World) (h:bW lo hi w cs b) (hlen:b.sites.length≤1048576) :
 Calls Tryz.prog 195 #[.agg cs.toArray,.int .i64 p] w fun e w'=>∃v,e=.returned v∧SlV 1 bS w.heap.size w'.heap.size w' v (ba b p)∧Ext w w':=by
 obtain ⟨v1,v2,v4,v5,rfl,r1,r2,hN,hS,hO,hI⟩:=h
 obtain ⟨aas,ks,rfl,s1,s2,s3,s4⟩:=hS
 unfold maxLen at s2
 obtain ⟨W0,hW0,hbx,hx0,hz⟩:=aN w [.int .i64 b.roots,v1,.slice aas b.sites.length ks,.int .i64 b.edges,v4,v5] 40
 have ps:=(hbx 2 _ rfl).1
 have hzz:w.heap.size<W0.heap.size:=by omega
 clear hz hbx
 obtain ⟨i0,hi0,hz0,hz1,hz2⟩:=info_parts oR
 have hrow0:fd 1 bS 3 W0.heap.size (W0.alloc (.cells #[] 3)) (.slice (some ⟨W0.heap.size,0,none⟩) 0 0) []:=fd.made (Nat.le_refl _)
 go_enter Tryz.func195,Tryz.ntmps195
 go_wp2
 go_loopw [5,6] (fun v c wr=>∃i:Nat,c=.int .i64 i∧i≤b.sites.length∧fd 1 bS 3 W0.heap.size wr v (idxOf (g7 b p) i)∧Ext W0 wr) (fun _ c _=>b.sites.length - (intOf c).toNat)
 case atStart=>exact ⟨0,rfl,Nat.zero_le _,hrow0,xw⟩
 case round=>
  obtain ⟨i,rfl,hi',hrow,hx⟩:=hrel
  replace ps:=hx.keep ps
  have hX:Ext w wr:=xw
  by_cases hlt:i<b.sites.length
  ·have HF:=Lib.hid (wE b p i hlt)
   rcases s4 with s4|⟨bs,os,rfl,sb1,sb2,s4⟩
   ·rw [s4] at hlt;simp at hlt
   obtain ⟨cs,hl,⟨rfl,e1⟩,hc⟩:=s4 i hlt
   have q0:=hX.keep (hc 0 _ rfl)
   rw [Nat.mul_one,Nat.add_zero] at q0
   clear hc s4
   have hsz:=Below.size hx
   have hL:=dF (g7 b p) i
   by_cases hp:b.sites[i]=p
   ·have ep:(b.sites[i] == p)=true:=beq_iff_eq.2 hp
    have HT:=Lib.hid (cY (f:=g7 b p) (n:=i) (by rw [HF.out];simpa using hp))
    clear hp
    go_wp2_with (at_builtin;refine bF bS.keeps rfl (.tmp 22) (.tmp 24) 25 rfl (W0.heap.size) 3 i0 _ 8 Tryz.underlying25 hi0 hz0 hz1 hz2 rfl (by decide) _ _ (by rfl) (hrow.ext bS.keeps xw) ⟨wr.heap.size,0,none⟩ 1 [.int .i64 i] rfl rfl (fG (by simp)) (by simp [Value.oneCell']) (W0.heap.size) (W0.heap.size) (Nat.le_refl _) (by first|omega|(simp;omega)) (fun g hg=>.inr (hrow.block g hg).1) ((i:Int)) ⟨rfl,kf (by omega)⟩ (by first|omega|(simp;omega)) (by decide) (by first|omega|(simp;omega)) ?_;intro v3 w3 row3 ext3 gro3 own3)
    have hx3:=ext3 W0 xw (Nat.le_refl _)
    go_roundw
    case rel=>exact ⟨i+1,rfl,by omega,by rw [HT.out];exact row3,xw⟩
    ·simp only [intOf];omega
   ·have ep:(b.sites[i] == p)=false:=beq_eq_false_iff_ne.2 hp
    have HT:=Lib.hid (dL (f:=g7 b p) (n:=i) (by rw [HF.out];simpa using hp))
    clear hp
    go_wp2
    go_roundw
    case rel=>exact ⟨i+1,rfl,by omega,by rw [HT.out];exact hrow,xw⟩
    ·simp only [intOf];omega
  ·have e:i=b.sites.length:=by omega
   subst e
   go_wp2
   go_ret
   exact ⟨_,rfl,hrow.toSlV bS.widens (by omega),hX⟩
end Go.Proofs.YtclpbhoekmecjaaGreatDoor
namespace Go.Proofs.YtclpbhoekmecjaaGreatDoor
open Go.RowKit
set_option linter.unusedVariables false
set_option linter.unusedSimpArgs false
theorem Dq:∃i,Tryz.prog.info? 219=some i∧i.zero=some (.agg #[.int .i64 0,.int .i64 0])∧i.size=2∧i.bytes=16:=info_parts B0
theorem gT (b:Big) (l:Int):∀(n:Nat),n≤b.nodes.length→(∀i (h:i<b.nodes.length),(b.nodes[i]).links.length≤1000)→(cU b l n).length≤n * 1000:=by
 intro n
 induction n with
 | zero=>intro _ _;simp [cU]
 | succ n ih=>
  intro hn hl
  rw [eZ b l n (by omega),List.length_append]
  have h1:=ih (by omega) hl
  have h2:=kY (b.nodes[n]).links l n (b.nodes[n]).links.length
  have h3:=hl n (by omega)
  omega
theorem km {v v' u:Value} {H:Nat} (own:v'.ownBlock=v.ownBlock∨v'.ownBlock=some H) (hne:∀g,u.ownBlock=some g→v.ownBlock≠some g) (hlt:∀g,u.ownBlock=some g→g<H):∀g,u.ownBlock=some g→v'.ownBlock≠some g:=
 fun g hg=>CT own (hne g hg) (hlt g hg)
theorem pC {v u:Value} (h:∀g,u.ownBlock=some g→v.ownBlock≠some g):∀g,v.ownBlock=some g→u.ownBlock≠some g:=fun g hg hu=>h g hu hg
theorem rY {α:Type} (l:List α):l.isEmpty=decide (l.length=0):=by cases l <;> simp
attribute [local irreducible] inR dD dh
set_option maxRecDepth 100000 in
set_option maxHeartbeats 3200000 in
theorem iz (lo hi:Nat) (cs:List Value) (b:Big) (l:Int) (w:World) (h:bW lo hi w cs b) (hlen:b.nodes.length≤1000) (hlinks:∀i (h:i<b.nodes.length),(b.nodes[i]).links.length≤1000) :
 Calls Tryz.prog 230 #[.agg cs.toArray,.int .i64 l] w fun e w'=>∃v,e=.returned v∧SlV 2 dV w.heap.size w'.heap.size w' v (aw b l)∧Ext w w':=by
 obtain ⟨v1,v2,v4,v5,rfl,r1,r2,hN,hS,hO,hI⟩:=h
 obtain ⟨aan,kn,rfl,n1,n2,n3,n4⟩:=hN
 unfold maxLen at n2
 obtain ⟨W0,hW0,hbx,hx0,hz⟩:=aN w [.int .i64 b.roots,.slice aan b.nodes.length kn,v2,.int .i64 b.edges,v4,v5] 40
 have pn:=(hbx 1 _ rfl).1
 have hzz:w.heap.size<W0.heap.size:=by omega
 clear hz hbx
 obtain ⟨i0,hi0,hz0,hz1,hz2⟩:=Dq
 have hrow0:fd 2 dV 219 W0.heap.size (W0.alloc (.cells #[] 219)) (.slice (some ⟨W0.heap.size,0,none⟩) 0 0) []:=fd.made (Nat.le_refl _)
 go_enter Tryz.func230,Tryz.ntmps230
 go_wp2
 go_loopw [5,6,7] (fun v c _ wr=>∃i:Nat,c=.int .i64 i∧i≤b.nodes.length∧fd 2 dV 219 W0.heap.size wr v (cU b l i)∧Ext W0 wr) (fun _ c _ _=>b.nodes.length - (intOf c).toNat)
 case atStart=>exact ⟨0,rfl,Nat.zero_le _,hrow0,xw⟩
 case round=>
  obtain ⟨i,rfl,hi',hrow,hx⟩:=hrel
  have pn1:=hx.keep pn
  have hX:Ext w wr:=hx0.trans hx
  by_cases hlt:i<b.nodes.length
  ·have HPS:=Lib.hid (eZ b l i hlt)
   have hll:=hlinks i hlt
   have hpl:=gT b l i hi' hlinks
   rcases n4 with n4|⟨bn,on,rfl,nb1,nb2,n4⟩
   ·rw [n4] at hlt;simp at hlt
   obtain ⟨cs,hl,hnp,hc⟩:=n4 i hlt
   generalize b.nodes[i]=nd at hnp HPS hll
   obtain ⟨nc,np,nl⟩:=nd
   obtain ⟨nv,rfl,e1,e2,e3⟩:=hnp
   have q2w:=hc 2 _ rfl
   have q2:=hX.keep q2w
   obtain ⟨la,lk,rfl,y1,y2,y3,y4⟩:=e3
   dsimp only at *
   unfold maxLen at y2
   clear hc n4
   go_wp2
   go_loopw [5,7] (fun v c wi=>∃k:Nat,c=.int .i64 k∧k≤nl.length∧fd 2 dV 219 W0.heap.size wi v (cU b l i++bR nl l i k)∧Ext W0 wi) (fun _ c _=>nl.length - (intOf c).toNat)
   case atStart=>exact ⟨0,rfl,Nat.zero_le _,by simpa [bR] using hrow,hx⟩
   case round=>
    obtain ⟨k,rfl,hk',hrowi,hxi⟩:=hrel
    have pn2:=hxi.keep pn
    have hXi:Ext w wr:=hx0.trans hxi
    have q3:=hXi.keep q2w
    by_cases hkl:k<nl.length
    ·have HY:=Lib.hid (jx (l:=l) (i:=i) hkl)
     have HN:=Lib.hid (kw (l:=l) (i:=i) hkl)
     rcases y4 with y4|⟨b3,o3,rfl,yb1,yb2,y4⟩
     ·rw [y4] at hkl;simp at hkl
     obtain ⟨es,el,⟨rfl,f1⟩,hes⟩:=y4 k hkl
     have t0:=hXi.keep (hes 0 _ rfl)
     rw [Nat.mul_one,Nat.add_zero] at t0
     clear hes y4
     have hsz:=Below.size hxi
     have hL:=kY nl l i k
     have hLL:(cU b l i++bR nl l i k).length=(cU b l i).length+(bR nl l i k).length:=List.length_append
     have hL2:(cU b l i++bR nl l i k).length≤2000000:=by omega
     clear hLL
     by_cases hp:nl[k]=l
     ·have ep:(nl[k] == l)=true:=beq_iff_eq.2 hp
      have HT:=Lib.hid (HY.out hp)
      clear hp
      go_wp2_with (at_builtin;refine bF dV.keeps rfl (.tmp 38) (.tmp 42) 179 rfl (W0.heap.size) 219 i0 _ 16 Tryz.underlying179 hi0 hz0 hz1 hz2 rfl (by decide) _ _ (by rfl) (hrowi.ext dV.keeps xw) ⟨wr.heap.size,0,none⟩ 1 [.int .i64 i,.int .i64 k] rfl rfl (fG (by simp)) (by simp [Value.oneCell']) (W0.heap.size) (W0.heap.size) (Nat.le_refl _) (by first|omega|(simp;omega)) (fun g hg=>.inr (hrowi.block g hg).1) (((i:Int),(k:Int))) ⟨rfl,kf (by omega),kf (by omega)⟩ (by first|omega|(simp;omega)) (by decide) (by first|omega|(simp;omega)) ?_;intro v3 w3 row3 ext3 gro3 own3)
      have hx3:=ext3 W0 xw (Nat.le_refl _)
      go_roundw
      case rel=>exact ⟨k+1,rfl,by omega,by rw [HT.out,← List.append_assoc];exact row3,xw⟩
      ·simp only [intOf];omega
     ·have ep:(nl[k] == l)=false:=beq_eq_false_iff_ne.2 hp
      have HT:=Lib.hid (HN.out hp)
      clear hp
      go_wp2
      go_roundw
      case rel=>exact ⟨k+1,rfl,by omega,by rw [HT.out];exact hrowi,xw⟩
      ·simp only [intOf];omega
    ·have e:k=nl.length:=by omega
     subst e
     go_wp2
     go_roundw
     case rel=>exact ⟨i+1,rfl,by omega,by rw [HPS.out];exact hrowi,xw⟩
     ·simp only [intOf];omega
  ·have e:i=b.nodes.length:=by omega
   subst e
   go_wp2
   go_ret
   exact ⟨_,rfl,hrow.toSlV dV.widens (by omega),hX⟩
set_option maxRecDepth 100000 in
set_option maxHeartbeats 3200000 in
theorem iy (lo hi:Nat) (cs:List Value) (b:Big) (p:Int) (w:World) (h:bW lo hi w cs b) (hlen:b.nodes.length≤1000) (hlen2:b.sites.length≤1000) :
 Calls Tryz.prog 155 #[.agg cs.toArray,.int .i64 p] w fun e w'=>∃v v',e=.returned (.tuple #[v,v'])∧SlV 1 bS w.heap.size w'.heap.size w' v (eH b p)∧SlV 1 bS w.heap.size w'.heap.size w' v' (ba b p)∧Ext w w':=by
 obtain ⟨v1,v2,v4,v5,rfl,r1,r2,hN,hS,hO,hI⟩:=h
 obtain ⟨aan,kn,rfl,n1,n2,n3,n4⟩:=hN
 obtain ⟨aas,ks,rfl,s1,s2,s3,s4⟩:=hS
 unfold maxLen at n2 s2
 obtain ⟨W0,hW0,hbx,hx0,hz⟩:=aN w [.int .i64 b.roots,.slice aan b.nodes.length kn,.slice aas b.sites.length ks,.int .i64 b.edges,v4,v5] 40
 have pn:=(hbx 1 _ rfl).1
 have ps:=(hbx 2 _ rfl).1
 have hzz:w.heap.size<W0.heap.size:=by omega
 clear hz hbx
 obtain ⟨i0,hi0,hz0,hz1,hz2⟩:=info_parts oR
 have hrowa:fd 1 bS 3 W0.heap.size ((W0.alloc (.cells #[] 3)).alloc (.cells #[] 3)) (.slice (some ⟨W0.heap.size,0,none⟩) 0 0) []:=(fd.made (Nat.le_refl _)).ext bS.keeps xw
 have hrowb:fd 1 bS 3 W0.heap.size ((W0.alloc (.cells #[] 3)).alloc (.cells #[] 3)) (.slice (some ⟨W0.heap.size+1,0,none⟩) 0 0) []:=by
  have:=fd.made (size:=1) (P:=bS) (e:=3) (base:=W0.heap.size) (w:=W0.alloc (.cells #[] 3)) (by simp)
  simpa using this
 have hab:∀g,(Value.slice (some ⟨W0.heap.size+1,0,none⟩) 0 0).ownBlock=some g→(Value.slice (some ⟨W0.heap.size,0,none⟩) 0 0).ownBlock≠some g:=by
  intro g hg hh;simp [Value.ownBlock] at hg hh;omega
 go_enter Tryz.func155,Tryz.ntmps155
 go_wp2
 go_loopw [17,6] (fun c v wr=>∃i:Nat,c=.int .i64 i∧i≤b.nodes.length∧fd 1 bS 3 W0.heap.size wr v (idxOf (ph b p) i)∧fd 1 bS 3 W0.heap.size wr (.slice (some ⟨W0.heap.size+1,0,none⟩) 0 0) []∧(∀g,(Value.slice (some ⟨W0.heap.size+1,0,none⟩) 0 0).ownBlock=some g→v.ownBlock≠some g)∧Ext W0 wr) (fun c _ _=>b.nodes.length - (intOf c).toNat)
 case atStart=>exact ⟨0,rfl,Nat.zero_le _,hrowa,hrowb,hab,xw⟩
 case round=>
  obtain ⟨i,rfl,hi',hrow,hrow2,hne,hx⟩:=hrel
  have HNE:=Lib.hid hne
  clear hne
  have pn1:=hx.keep pn
  have ps1:=hx.keep ps
  have hX:Ext w wr:=hx0.trans hx
  by_cases hlt:i<b.nodes.length
  ·have HF:=Lib.hid (Bp b p i hlt)
   rcases n4 with n4|⟨bn,on,rfl,nb1,nb2,n4⟩
   ·rw [n4] at hlt;simp at hlt
   obtain ⟨cs,hl,⟨nv,rfl,e1,e2,⟨la,lk,rfl,y1,y2,y3,y4⟩⟩,hc⟩:=n4 i hlt
   have q0:=hX.keep (hc 0 _ rfl)
   have q1:=hX.keep (hc 1 _ rfl)
   have q2:=hX.keep (hc 2 _ rfl)
   rw [Nat.add_zero] at q0
   clear hc n4
   have hsz:=Below.size hx
   have hL:=dF (ph b p) i
   by_cases hp:(b.nodes[i]).parent=p
   ·have ep:((b.nodes[i]).parent == p)=true:=beq_iff_eq.2 hp
    have HT:=Lib.hid (cY (f:=ph b p) (n:=i) (by rw [HF.out];simpa using hp))
    clear hp
    go_wp2_with (at_builtin;refine bF bS.keeps rfl (.tmp 26) (.tmp 28) 25 rfl (W0.heap.size) 3 i0 _ 8 Tryz.underlying25 hi0 hz0 hz1 hz2 rfl (by decide) _ _ (by rfl) (hrow.ext bS.keeps xw) ⟨wr.heap.size+1,0,none⟩ 1 [.int .i64 i] rfl rfl (fG (by simp)) (by simp [Value.oneCell']) (W0.heap.size) (W0.heap.size) (Nat.le_refl _) (by first|omega|(simp;omega)) (fun g hg=>.inr (hrow.block g hg).1) ((i:Int)) ⟨rfl,kf (by omega)⟩ (by first|omega|(simp;omega)) (by decide) (by first|omega|(simp;omega)) ?_;intro v3 w3 row3 ext3 gro3 own3)
    have hx3:=ext3 W0 xw (Nat.le_refl _)
    have row4:=(hrow2.ext bS.keeps xw).kept bS.flat gro3 HNE.out
    have hne3:=km own3 HNE.out (fun g hg=>by have:=hrow2.block g hg;simp;omega)
    go_roundw
    case rel=>exact ⟨i+1,rfl,by omega,by rw [HT.out];exact row3,row4,hne3,hx3⟩
    ·simp only [intOf];omega
   ·have ep:((b.nodes[i]).parent == p)=false:=beq_eq_false_iff_ne.2 hp
    have HT:=Lib.hid (dL (f:=ph b p) (n:=i) (by rw [HF.out];simpa using hp))
    clear hp
    go_wp2
    go_roundw
    case rel=>exact ⟨i+1,rfl,by omega,by rw [HT.out];exact hrow.ext bS.keeps xw,hrow2.ext bS.keeps xw,HNE.out,xw⟩
    ·simp only [intOf];omega
  ·have e:i=b.nodes.length:=by omega
   subst e
   clear hab hrowa hrowb
   have hrk:=hrow
   go_wp2
   go_loopw [34,7] (fun c u wr=>∃i:Nat,c=.int .i64 i∧i≤b.sites.length∧fd 1 bS 3 W0.heap.size wr u (idxOf (g7 b p) i)∧fd 1 bS 3 W0.heap.size wr u6 (eH b p)∧(∀g,u6.ownBlock=some g→u.ownBlock≠some g)∧Ext W0 wr) (fun c _ _=>b.sites.length - (intOf c).toNat)
   case atStart=>exact ⟨0,rfl,Nat.zero_le _,hrow2,hrow,pC HNE.out,hx⟩
   case round=>
    obtain ⟨i,rfl,hi',hrow7,hrow6,hne,hx⟩:=hrel
    have HNE:=Lib.hid hne
    clear hne
    have ps1:=hx.keep ps
    have hX:Ext w wr:=hx0.trans hx
    by_cases hlt:i<b.sites.length
    ·have HF:=Lib.hid (wE b p i hlt)
     rcases s4 with s4|⟨bs,os,rfl,sb1,sb2,s4⟩
     ·rw [s4] at hlt;simp at hlt
     obtain ⟨cs,hl,⟨rfl,e1⟩,hc⟩:=s4 i hlt
     have q0:=hX.keep (hc 0 _ rfl)
     rw [Nat.mul_one,Nat.add_zero] at q0
     clear hc s4
     have hsz:=Below.size hx
     have hL:=dF (g7 b p) i
     by_cases hp:b.sites[i]=p
     ·have ep:(b.sites[i] == p)=true:=beq_iff_eq.2 hp
      have HT:=Lib.hid (cY (f:=g7 b p) (n:=i) (by rw [HF.out];simpa using hp))
      clear hp
      go_wp2_with (at_builtin;refine bF bS.keeps rfl (.tmp 42) (.tmp 44) 25 rfl (W0.heap.size) 3 i0 _ 8 Tryz.underlying25 hi0 hz0 hz1 hz2 rfl (by decide) _ _ (by rfl) (hrow7.ext bS.keeps xw) ⟨wr.heap.size,0,none⟩ 1 [.int .i64 i] rfl rfl (fG (by simp)) (by simp [Value.oneCell']) (W0.heap.size) (W0.heap.size) (Nat.le_refl _) (by first|omega|(simp;omega)) (fun g hg=>.inr (hrow7.block g hg).1) ((i:Int)) ⟨rfl,kf (by omega)⟩ (by first|omega|(simp;omega)) (by decide) (by first|omega|(simp;omega)) ?_;intro v3 w3 row3 ext3 gro3 own3)
      have hx3:=ext3 W0 xw (Nat.le_refl _)
      have row4:=(hrow6.ext bS.keeps xw).kept bS.flat gro3 HNE.out
      have hne3:=km own3 HNE.out (fun g hg=>by have:=hrow6.block g hg;simp;omega)
      go_roundw
      case rel=>exact ⟨i+1,rfl,by omega,by rw [HT.out];exact row3,row4,hne3,hx3⟩
      ·simp only [intOf];omega
     ·have ep:(b.sites[i] == p)=false:=beq_eq_false_iff_ne.2 hp
      have HT:=Lib.hid (dL (f:=g7 b p) (n:=i) (by rw [HF.out];simpa using hp))
      clear hp
      go_wp2
      go_roundw
      case rel=>exact ⟨i+1,rfl,by omega,by rw [HT.out];exact hrow7,hrow6,HNE.out,xw⟩
      ·simp only [intOf];omega
    ·have e:i=b.sites.length:=by omega
     subst e
     go_wp2
     go_ret2
     exact ⟨_,_,rfl,hrow6.toSlV bS.widens (by omega),hrow7.toSlV bS.widens (by omega),hX⟩
set_option maxRecDepth 100000 in
set_option maxHeartbeats 3200000 in
theorem i9 (lo hi:Nat) (cs:List Value) (b:Big) (l:Int) (w:World) (h:bW lo hi w cs b) (hlen:b.nodes.length≤1000) (hlinks:∀i (h:i<b.nodes.length),(b.nodes[i]).links.length≤1000) (hlen2:b.inner.length≤1048576) :
 Calls Tryz.prog 158 #[.agg cs.toArray,.int .i64 l] w fun e w'=>∃v v',e=.returned (.tuple #[v,v'])∧SlV 2 dV w.heap.size w'.heap.size w' v (aw b l)∧SlV 1 dv w.heap.size w'.heap.size w' v' (mP b l)∧Ext w w':=by
 obtain ⟨v1,v2,v4,v5,rfl,r1,r2,hN,hS,hO,hI⟩:=h
 obtain ⟨aan,kn,rfl,n1,n2,n3,n4⟩:=hN
 obtain ⟨aai,ki,rfl,i1,i2,i3,i4⟩:=hI
 unfold maxLen at n2 i2
 obtain ⟨W0,hW0,hbx,hx0,hz⟩:=aN w [.int .i64 b.roots,.slice aan b.nodes.length kn,v2,.int .i64 b.edges,v4,.slice aai b.inner.length ki] 40
 have pn:=(hbx 1 _ rfl).1
 have pi:=(hbx 5 _ rfl).1
 have hzz:w.heap.size<W0.heap.size:=by omega
 clear hz hbx
 obtain ⟨i0,hi0,hz0,hz1,hz2⟩:=Dq
 obtain ⟨j0,hj0,hy0,hy1,hy2⟩:=info_parts qF
 have hrowa:fd 2 dV 219 W0.heap.size ((W0.alloc (.cells #[] 219)).alloc (.cells #[] 9)) (.slice (some ⟨W0.heap.size,0,none⟩) 0 0) []:=(fd.made (Nat.le_refl _)).ext dV.keeps xw
 have hrowb:fd 1 dv 9 W0.heap.size ((W0.alloc (.cells #[] 219)).alloc (.cells #[] 9)) (.slice (some ⟨W0.heap.size+1,0,none⟩) 0 0) []:=by
  have:=fd.made (size:=1) (P:=dv) (e:=9) (base:=W0.heap.size) (w:=W0.alloc (.cells #[] 219)) (by simp)
  simpa using this
 have hab:∀g,(Value.slice (some ⟨W0.heap.size+1,0,none⟩) 0 0).ownBlock=some g→(Value.slice (some ⟨W0.heap.size,0,none⟩) 0 0).ownBlock≠some g:=by
  intro g hg hh;simp [Value.ownBlock] at hg hh;omega
 go_enter Tryz.func158,Tryz.ntmps158
 go_wp2
 go_loopw [19,6] (fun c v wr=>∃i:Nat,c=.int .i64 i∧i≤b.nodes.length∧fd 2 dV 219 W0.heap.size wr v (cU b l i)∧fd 1 dv 9 W0.heap.size wr (Value.slice (some ⟨W0.heap.size+1,0,none⟩) 0 0) []∧(∀g,(Value.slice (some ⟨W0.heap.size+1,0,none⟩) 0 0).ownBlock=some g→v.ownBlock≠some g)∧Ext W0 wr) (fun c _ _=>b.nodes.length - (intOf c).toNat)
 case atStart=>exact ⟨0,rfl,Nat.zero_le _,hrowa,hrowb,hab,xw⟩
 case round=>
  obtain ⟨i,rfl,hi',hrow,hrow2,hne,hx⟩:=hrel
  have HNE:=Lib.hid hne
  clear hne
  have pn1:=hx.keep pn
  have pi1:=hx.keep pi
  have hX:Ext w wr:=hx0.trans hx
  by_cases hlt:i<b.nodes.length
  ·have HPS:=Lib.hid (eZ b l i hlt)
   have hll:=hlinks i hlt
   have hpl:=gT b l i hi' hlinks
   rcases n4 with n4|⟨bn,on,rfl,nb1,nb2,n4⟩
   ·rw [n4] at hlt;simp at hlt
   obtain ⟨cs,hl,hnp,hc⟩:=n4 i hlt
   generalize b.nodes[i]=nd at hnp HPS hll
   obtain ⟨nc,np,nl⟩:=nd
   obtain ⟨nv,rfl,e1,e2,e3⟩:=hnp
   have q0:=hX.keep (hc 0 _ rfl)
   have q1:=hX.keep (hc 1 _ rfl)
   have q2:=hX.keep (hc 2 _ rfl)
   rw [Nat.add_zero] at q0
   obtain ⟨la,lk,rfl,y1,y2,y3,y4⟩:=e3
   dsimp only at *
   unfold maxLen at y2
   clear hc n4
   go_wp2
   go_loopw [27,6] (fun c v wi=>∃k:Nat,c=.int .i64 k∧k≤nl.length∧fd 2 dV 219 W0.heap.size wi v (cU b l i++bR nl l i k)∧fd 1 dv 9 W0.heap.size wi (Value.slice (some ⟨W0.heap.size+1,0,none⟩) 0 0) []∧(∀g,(Value.slice (some ⟨W0.heap.size+1,0,none⟩) 0 0).ownBlock=some g→v.ownBlock≠some g)∧Ext W0 wi) (fun c _ _=>nl.length - (intOf c).toNat)
   case atStart=>exact ⟨0,rfl,Nat.zero_le _,by simpa [bR] using hrow.ext dV.keeps xw,hrow2.ext dv.keeps xw,HNE.out,xw⟩
   case round=>
    obtain ⟨k,rfl,hk',hrowi,hrowi2,hnei,hxi⟩:=hrel
    have HNEI:=Lib.hid hnei
    clear hnei
    have hXi:Ext w wr:=hx0.trans hxi
    by_cases hkl:k<nl.length
    ·have HY:=Lib.hid (jx (l:=l) (i:=i) hkl)
     have HN:=Lib.hid (kw (l:=l) (i:=i) hkl)
     rcases y4 with y4|⟨b3,o3,rfl,yb1,yb2,y4⟩
     ·rw [y4] at hkl;simp at hkl
     obtain ⟨es,el,⟨rfl,f1⟩,hes⟩:=y4 k hkl
     have t0:=hXi.keep (hes 0 _ rfl)
     rw [Nat.mul_one,Nat.add_zero] at t0
     clear hes y4
     have hsz:=Below.size hxi
     have hL:=kY nl l i k
     have hLL:(cU b l i++bR nl l i k).length=(cU b l i).length+(bR nl l i k).length:=List.length_append
     have hL2:(cU b l i++bR nl l i k).length≤2000000:=by omega
     clear hLL
     by_cases hp:nl[k]=l
     ·have ep:(nl[k] == l)=true:=beq_iff_eq.2 hp
      have HT:=Lib.hid (HY.out hp)
      clear hp
      go_wp2_with (at_builtin;refine bF dV.keeps rfl (.tmp 35) (.tmp 39) 179 rfl (W0.heap.size) 219 i0 _ 16 Tryz.underlying179 hi0 hz0 hz1 hz2 rfl (by decide) _ _ (by rfl) (hrowi.ext dV.keeps xw) ⟨wr.heap.size,0,none⟩ 1 [.int .i64 i,.int .i64 k] rfl rfl (fG (by simp)) (by simp [Value.oneCell']) (W0.heap.size) (W0.heap.size) (Nat.le_refl _) (by first|omega|(simp;omega)) (fun g hg=>.inr (hrowi.block g hg).1) (((i:Int),(k:Int))) ⟨rfl,kf (by omega),kf (by omega)⟩ (by first|omega|(simp;omega)) (by decide) (by first|omega|(simp;omega)) ?_;intro v3 w3 row3 ext3 gro3 own3)
      have hx3:=ext3 W0 xw (Nat.le_refl _)
      have row4:=(hrowi2.ext dv.keeps xw).kept dv.flat gro3 HNEI.out
      have hne3:=km own3 HNEI.out (fun g hg=>by have:=hrowi2.block g hg;simp;omega)
      go_roundw
      case rel=>exact ⟨k+1,rfl,by omega,by rw [HT.out,← List.append_assoc];exact row3,row4,hne3,hx3⟩
      ·simp only [intOf];omega
     ·have ep:(nl[k] == l)=false:=beq_eq_false_iff_ne.2 hp
      have HT:=Lib.hid (HN.out hp)
      clear hp
      go_wp2
      go_roundw
      case rel=>exact ⟨k+1,rfl,by omega,by rw [HT.out];exact hrowi,hrowi2,HNEI.out,xw⟩
      ·simp only [intOf];omega
    ·have e:k=nl.length:=by omega
     subst e
     go_wp2
     go_roundw
     case rel=>exact ⟨i+1,rfl,by omega,by rw [HPS.out];exact hrowi,hrowi2,HNEI.out,hxi⟩
     ·simp only [intOf];omega
  ·have e:i=b.nodes.length:=by omega
   subst e
   clear hab hrowa hrowb
   have hpl:=gT b l b.nodes.length (Nat.le_refl _) hlinks
   go_wp2
   go_loopw [46,7] (fun c u wr=>∃i:Nat,c=.int .i64 i∧i≤b.inner.length∧fd 1 dv 9 W0.heap.size wr u (dY b l i)∧fd 2 dV 219 W0.heap.size wr u6 (aw b l)∧(∀g,u6.ownBlock=some g→u.ownBlock≠some g)∧Ext W0 wr) (fun c _ _=>b.inner.length - (intOf c).toNat)
   case atStart=>exact ⟨0,rfl,Nat.zero_le _,hrow2,hrow,pC HNE.out,hx⟩
   case round=>
    obtain ⟨i,rfl,hi',hrow7,hrow6,hne,hx⟩:=hrel
    have HNE2:=Lib.hid hne
    clear hne
    have pi1:=hx.keep pi
    have hX:Ext w wr:=hx0.trans hx
    by_cases hlt:i<b.inner.length
    ·have HY:=Lib.hid (mC (l:=l) hlt)
     have HN:=Lib.hid (nT (l:=l) hlt)
     rcases i4 with i4|⟨bi,oi,rfl,ib1,ib2,i4⟩
     ·rw [i4] at hlt;simp at hlt
     obtain ⟨cs,hl,⟨rfl,e1,e2⟩,hc⟩:=i4 i hlt
     have q0:=hX.keep (hc 0 _ rfl)
     have q1:=hX.keep (hc 1 _ rfl)
     rw [Nat.add_zero] at q0
     clear hc i4
     have hsz:=Below.size hx
     have hL:=iO b l i
     by_cases hp:(b.inner[i]).link=l
     ·have ep:((b.inner[i]).link == l)=true:=beq_iff_eq.2 hp
      have HT:=Lib.hid (HY.out hp)
      clear hp
      go_wp2_with (at_builtin;refine bF dv.keeps rfl (.tmp 54) (.tmp 57) 26 rfl (W0.heap.size) 9 j0 _ 16 Tryz.underlying26 hj0 hy0 hy1 hy2 rfl (by decide) _ _ (by rfl) (hrow7.ext dv.keeps xw) ⟨wr.heap.size+1,0,none⟩ 1 [.string (b.inner[i]).name] rfl rfl (fG (by simp)) (by simp [Value.oneCell']) (W0.heap.size) (W0.heap.size) (Nat.le_refl _) (by first|omega|(simp;omega)) (fun g hg=>.inr (hrow7.block g hg).1) ((b.inner[i]).name) ⟨rfl,e1⟩ (by first|omega|(simp;omega)) (by decide) (by first|omega|(simp;omega)) ?_;intro v3 w3 row3 ext3 gro3 own3)
      have hx3:=ext3 W0 xw (Nat.le_refl _)
      have row4:=(hrow6.ext dV.keeps xw).kept dV.flat gro3 HNE2.out
      have hne3:=km own3 HNE2.out (fun g hg=>by have:=hrow6.block g hg;simp;omega)
      go_roundw
      case rel=>exact ⟨i+1,rfl,by omega,by rw [HT.out];exact row3,row4,hne3,hx3⟩
      ·simp only [intOf];omega
     ·have ep:((b.inner[i]).link == l)=false:=beq_eq_false_iff_ne.2 hp
      have HT:=Lib.hid (HN.out hp)
      clear hp
      go_wp2
      go_roundw
      case rel=>exact ⟨i+1,rfl,by omega,by rw [HT.out];exact hrow7.ext dv.keeps xw,hrow6.ext dV.keeps xw,HNE2.out,xw⟩
      ·simp only [intOf];omega
    ·have e:i=b.inner.length:=by omega
     subst e
     go_wp2
     go_ret2
     exact ⟨_,_,rfl,hrow6.toSlV dV.widens (by omega),hrow7.toSlV dv.widens (by omega),hX⟩
set_option maxHeartbeats 1600000 in
theorem fO (lo hi:Nat) (cs:List Value) (b:Big) (l:Int) (w:World) (h:bW lo hi w cs b) (hlen:b.nodes.length≤1000) (hlinks:∀i (h:i<b.nodes.length),(b.nodes[i]).links.length≤1000) (hlen2:b.inner.length≤1048576) :
 Calls Tryz.prog 209 #[.agg cs.toArray,.int .i64 l] w fun e w'=>e=.returned (.bool (nz b l))∧Ext w w':=by
 have hB:=h
 obtain ⟨v1,v2,v4,v5,rfl,r1,r2,hN,hS,hO,hI⟩:=h
 obtain ⟨W0,hW0,hbx,hx0,hz⟩:=aN w [.int .i64 b.roots,v1,v2,.int .i64 b.edges,v4,v5] 40
 have p0:=(hbx 0 _ rfl).1
 have p1:=(hbx 1 _ rfl).1
 have p2:=(hbx 2 _ rfl).1
 have p3:=(hbx 3 _ rfl).1
 have p4:=(hbx 4 _ rfl).1
 have p5:=(hbx 5 _ rfl).1
 clear hz hbx
 replace hB:=bW.keeps _ _ _ _ _ _ (bV.ext hx0) hB
 have hpl:(aw b l).length≤1000000:=by have:=gT b l b.nodes.length (Nat.le_refl _) hlinks;unfold aw;omega
 have hel:(mP b l).length≤1048576:=by have:=iO b l b.inner.length;unfold mP;omega
 have HI:=Lib.hid (show nz b l=(decide ((aw b l).length=0) && decide ((mP b l).length=0)) by unfold nz;rw [rY,rY])
 go_enter Tryz.func209,Tryz.ntmps209
 go_wp2_with fail
 refine (i9 lo hi [.int .i64 b.roots,v1,v2,.int .i64 b.edges,v4,v5] b l _ hB hlen hlinks hlen2).mono ?_
 rintro e y ⟨u,u',rfl,hU,hU',hb⟩
 obtain ⟨ua,uk,rfl,z1,z2,z3,z4⟩:=hU
 obtain ⟨ua',uk',rfl,z1',z2',z3',z4'⟩:=hU'
 clear z4 z4'
 go_wp2
 go_ret
 exact ⟨am (by rw [HI.out,Bool.eq_iff_iff];simp only [beq_iff_eq,Bool.and_eq_true,decide_eq_true_eq];omega),xw⟩
end Go.Proofs.YtclpbhoekmecjaaGreatDoor
namespace Go.Proofs.YtclpbhoekmecjaaGreatDoor
open Go.RowKit
set_option linter.unusedVariables false
set_option linter.unusedSimpArgs false
def gi (b:Big) (r:Nat):Bool:=!(decide ((eH b (-1 - r)).length=0)) && decide ((ba b (-1 - r)).length=0)
def cX (b:Big) (i:Nat):Bool:=decide ((ba b i).length≤1)
def dq (b:Big) (l:Nat):Bool:=!(nz b l)
def dW (b:Big) (n:Nat):Bool:=if -b.roots+n<0 then gi b (-1 - (-b.roots+n)).toNat else cX b (-b.roots+n).toNat
def ap (b:Big):Nat:=(b.edges+b.outer.length).toNat
def bZ (b:Big):Bool:=(decide (b.inner.length=0) && !(decide (b.roots=0))) && ((List.range b.roots.toNat).all (gi b) && ((List.range b.nodes.length).all (cX b) && (List.range (ap b)).all (dq b)))
structure uz (b:Big):Prop where
 roots:inR b.roots 0 4=true
 edges:inR b.edges 0 8=true
 nodes:b.nodes.length≤1000
 sites:b.sites.length≤1000
 outer:b.outer.length≤1000
 inner:b.inner.length≤1048576
 links:∀i (h:i<b.nodes.length),(b.nodes[i]).links.length≤1000
theorem aD (f:Nat→Bool) (n:Nat):(List.range n).all f=true↔∀i,i<n→f i=true:=by
 rw [List.all_eq_true];constructor
 ·intro h i hi;exact h i (List.mem_range.2 hi)
 ·intro h i hi;exact h i (List.mem_range.1 hi)
theorem nZ (b:Big) (h:0≤b.roots):(List.range (b.roots.toNat+b.nodes.length)).all (dW b)=((List.range b.roots.toNat).all (gi b) && (List.range b.nodes.length).all (cX b)):=by
 rw [Bool.eq_iff_iff,Bool.and_eq_true,aD,aD,aD]
 constructor
 ·intro hh
  refine ⟨fun r hr=>?_,fun i hi=>?_⟩
  ·have:=hh (b.roots.toNat - 1 - r) (by omega)
   unfold dW at this
   rw [if_pos (by omega)] at this
   have e:(-1 - (-b.roots+((b.roots.toNat - 1 - r:Nat):Int))).toNat=r:=by omega
   rwa [e] at this
  ·have:=hh (b.roots.toNat+i) (by omega)
   unfold dW at this
   rw [if_neg (by omega)] at this
   have e:(-b.roots+((b.roots.toNat+i:Nat):Int)).toNat=i:=by omega
   rwa [e] at this
 ·rintro ⟨h1,h2⟩ n hn
  unfold dW
  split
  ·exact h1 _ (by omega)
  ·exact h2 _ (by omega)
theorem sF {b:Big} (h:0≤b.roots) (n:Nat) (hn:n<b.roots.toNat+b.nodes.length) (hp:dW b n=false):bZ b=false:=by
 have:=nZ b h
 rw [aT _ _ n hn hp] at this
 unfold bZ
 rw [← Bool.and_assoc ((List.range b.roots.toNat).all (gi b)),← this];simp
theorem vw {b:Big} (n:Nat) (hn:n<ap b) (hp:dq b n=false):bZ b=false:=by
 unfold bZ;rw [aT _ _ n hn hp];simp
theorem vq {b:Big} (n:Nat) (hn:n<b.roots.toNat) (hp:gi b n=false):bZ b=false:=by
 unfold bZ;rw [aT _ _ n hn hp];simp
theorem uF {b:Big} (n:Nat) (hn:n<b.nodes.length) (hp:cX b n=false):bZ b=false:=by
 unfold bZ;rw [aT _ _ n hn hp];simp
theorem lh {b:Big} (h:¬b.inner.length=0∨b.roots=0):bZ b=false:=by
 unfold bZ
 rcases h with h|h
 ·rw [decide_eq_false h];rfl
 ·rw [decide_eq_true h];simp
theorem pQ {b:Big} (h1:b.inner.length=0) (h2:¬b.roots=0) (h3:(List.range b.roots.toNat).all (gi b)=true) (h4:(List.range b.nodes.length).all (cX b)=true) (h5:(List.range (ap b)).all (dq b)=true):bZ b=true:=by
 unfold bZ;rw [decide_eq_true h1,decide_eq_false h2,h3,h4,h5];rfl
theorem sw {sig:List Ctl} (h:kX sig=true) (k:Int) (h0:0≤k) (h1:k<sig.length):(tK sig k).ports≤3:=by
 obtain ⟨m,rfl⟩:=Int.eq_ofNat_of_zero_le h0
 rw [i8 sig m (by omega)]
 unfold kX at h
 have h2:=(aD _ _).1 (Bool.and_eq_true_iff.1 h).2 m (by omega)
 rw [rh sig m (by omega)] at h2
 have h3:=(Bool.and_eq_true_iff.1 h2).1
 unfold Gp at h3
 simp only [Bool.and_eq_true] at h3
 have:=bL h3.2.1
 omega
theorem bG {sig:List Ctl} {b:Big} (h:ay sig b=true):uz b:=by
 obtain ⟨h1,h2,_,_⟩:=cN h
 obtain ⟨a,r,c,d,e,f,g⟩:=de h1
 refine ⟨r,e,by omega,by omega,by have:=eu f;omega,by have:=eu g;simp at this;omega,fun i hi=>?_⟩
 have h3:=(aD _ _).1 h2 i hi
 rw [ma sig b i hi] at h3
 simp only [Bool.and_eq_true,decide_eq_true_eq] at h3
 have hc:=bL h3.1
 have:=sw a _ hc.1 (by omega)
 omega
end Go.Proofs.YtclpbhoekmecjaaGreatDoor
namespace Go.Proofs.YtclpbhoekmecjaaGreatDoor
open Go.RowKit
set_option linter.unusedVariables false
set_option linter.unusedSimpArgs false
attribute [local irreducible] inR dD dh eH ba aw mP nz gi cX dq dW
theorem zK (b:Big) (r:Nat):gi b r=(!(decide ((eH b (-1 - r)).length=0)) && decide ((ba b (-1 - r)).length=0)):=by unfold gi;rfl
theorem tq (b:Big) (i:Nat):cX b i=decide ((ba b i).length≤1):=by unfold cX;rfl
theorem tg (b:Big) (i:Nat):dq b i = !(nz b i):=by unfold dq;rfl
theorem uN (b:Big) (n:Nat) (p:Int) (hp:p = -b.roots+n) (h:p<0):dW b n=(!(decide ((eH b p).length=0)) && decide ((ba b p).length=0)):=by
 subst hp
 have:dW b n=if -b.roots+n<0 then gi b (-1 - (-b.roots+n)).toNat else cX b (-b.roots+n).toNat:=by unfold dW;rfl
 rw [this,if_pos h,zK,show (-1 - (((-1 - (-b.roots+(n:Int))).toNat:Nat):Int)) = -b.roots+n by omega]
theorem uD (b:Big) (n:Nat) (p:Int) (hp:p = -b.roots+n) (h:¬p<0):dW b n=decide ((ba b p).length≤1):=by
 subst hp
 have:dW b n=if -b.roots+n<0 then gi b (-1 - (-b.roots+n)).toNat else cX b (-b.roots+n).toNat:=by unfold dW;rfl
 rw [this,if_neg h,tq,show (((-b.roots+(n:Int)).toNat:Nat):Int) = -b.roots+n by omega]
theorem zH (b:Big) (p:Int):(eH b p).length≤b.nodes.length:=by unfold eH;exact dF _ _
theorem xd (b:Big) (p:Int):(ba b p).length≤b.sites.length:=by unfold ba;exact dF _ _
set_option maxRecDepth 100000 in
set_option maxHeartbeats 3200000 in
theorem eG (lo hi:Nat) (cs:List Value) (b:Big) (w:World) (h:bW lo hi w cs b) (D:uz b) :
 Calls Tryz.prog 141 #[.agg cs.toArray] w fun e w'=>e=.returned (.bool (bZ b))∧Ext w w':=by
 have hB:=h
 obtain ⟨v1,v2,v4,v5,rfl,r1,r2,hN,hS,hO,hI⟩:=h
 obtain ⟨a1,k1,rfl,g1,g2,g3,_⟩:=hN
 obtain ⟨a4,k4,rfl,o1,o2,o3,_⟩:=hO
 obtain ⟨a5,k5,rfl,l1,l2,l3,_⟩:=hI
 unfold maxLen at g2 o2 l2
 have hrr:=bL D.roots
 have hee:=bL D.edges
 have hdn:=D.nodes
 have hds:=D.sites
 have hdo:=D.outer
 have hdi:=D.inner
 obtain ⟨W0,hW0,hbx,hx0,hz⟩:=aN w [.int .i64 b.roots,.slice a1 b.nodes.length k1,v2,.int .i64 b.edges,.slice a4 b.outer.length k4,.slice a5 b.inner.length k5] 40
 have p0:=(hbx 0 _ rfl).1
 have p1:=(hbx 1 _ rfl).1
 have p2:=(hbx 2 _ rfl).1
 have p3:=(hbx 3 _ rfl).1
 have p4:=(hbx 4 _ rfl).1
 have p5:=(hbx 5 _ rfl).1
 clear hz hbx
 replace hB:=bW.keeps _ _ _ _ _ _ (bV.ext hx0) hB
 have HD:=Lib.hid D
 go_enter Tryz.func141,Tryz.ntmps141
 have Hr:=Lib.hid trivial
 by_cases hni:0<b.inner.length
 have eni:decide (0<b.inner.length)=true:=decide_eq_true hni
 have isF:=trivial
 rotate_left
 have eni:decide (0<b.inner.length)=false:=decide_eq_false hni
 by_cases hr:(b.roots)=(0)
 have er:((b.roots) == (0))=true:=beq_iff_eq.2 hr
 have Hr:=Lib.hid hr;clear hr
 have isF:=trivial
 rotate_left
 have er:((b.roots) == (0))=false:=beq_eq_false_iff_ne.2 hr
 have Hr:=Lib.hid hr;clear hr
 all_goals go_wp2_with fail
 all_goals first|(have:=isF;go_ret;exact ⟨am (lh (by first|(left;omega)|(right;exact Hr.out))).symm,xw⟩)|skip
 have hin:b.inner.length=0:=by omega
 have HIN:=Lib.hid hin
 clear hin
 go_loopw [3] (fun c wr=>∃n:Nat,c=.int .i64 (-b.roots+n)∧n≤b.roots.toNat+b.nodes.length∧(List.range n).all (dW b)=true∧Ext W0 wr) (fun c _=>(b.nodes.length - intOf c).toNat)
 case atStart=>exact ⟨0,by simp,Nat.zero_le _,rfl,Ext.refl _⟩
 case round=>
  obtain ⟨n,rfl,hn0,hok,hx⟩:=hrel
  have HOK:=Lib.hid hok
  clear hok
  have hX:Ext w wr:=hx0.trans hx
  have q0:=hx.keep p0
  have q1:=hx.keep p1
  have q2:=hx.keep p2
  have q3:=hx.keep p3
  have q4:=hx.keep p4
  have q5:=hx.keep p5
  have hB':=bW.keeps _ _ _ _ _ _ (bV.ext hx) hB
  generalize hpp : -b.roots+(n:Int)=p
  have HPP:=Lib.hid hpp
  by_cases hlt:p<b.nodes.length
  ·have hnlt:n<b.roots.toNat+b.nodes.length:=by omega
   have HS:=Lib.hid (bM (dW b) n)
   have HBD:=Lib.hid (sF hrr.1 n hnlt)
   have HNG:=Lib.hid (uN b n p hpp.symm)
   have HPS:=Lib.hid (uD b n p hpp.symm)
   have hk1:=zH b p
   have hh1:=xd b p
   have hpl : -4≤p:=by omega
   clear hpp
   go_wp2_with fail
   refine (iy lo hi [.int .i64 b.roots,.slice a1 b.nodes.length k1,v2,.int .i64 b.edges,.slice a4 b.outer.length k4,.slice a5 b.inner.length k5] b p _ hB' hdn hds).mono ?_
   rintro e y ⟨u,u',rfl,hU,hU',hb⟩
   obtain ⟨ua,uk,rfl,z1,z2,z3,z4⟩:=hU
   obtain ⟨ua',uk',rfl,z1',z2',z3',z4'⟩:=hU'
   clear z4 z4'
   replace q0:=hb.keep q0
   replace q1:=hb.keep q1
   have Hk:=Lib.hid trivial
   have hc:True:=trivial
   have hd:True:=trivial
   by_cases ha:p<0
   have ea:decide (p<0)=true:=decide_eq_true ha
   by_cases hk:(((eH b p).length:Int))=(0)
   have ek:((((eH b p).length:Int)) == (0))=true:=beq_iff_eq.2 hk
   have Hk:=Lib.hid hk;clear hk
   have HB:=Lib.hid (HBD.out (by first|(rw [HNG.out (by omega)];have:=Hk.out;first|(rw [decide_eq_true (by omega)];rfl)|(rw [decide_eq_false (by omega),decide_eq_false (by omega)];rfl))|(rw [HPS.out (by omega)];rw [decide_eq_false (by omega)])|(exfalso;omega)))
   have isF:=trivial
   rotate_left
   have ek:((((eH b p).length:Int)) == (0))=false:=beq_eq_false_iff_ne.2 hk
   have Hk:=Lib.hid hk;clear hk
   by_cases hc:0<(ba b p).length
   have ec:decide (0<(ba b p).length)=true:=decide_eq_true hc
   have HB:=Lib.hid (HBD.out (by first|(rw [HNG.out (by omega)];have:=Hk.out;first|(rw [decide_eq_true (by omega)];rfl)|(rw [decide_eq_false (by omega),decide_eq_false (by omega)];rfl))|(rw [HPS.out (by omega)];rw [decide_eq_false (by omega)])|(exfalso;omega)))
   have isF:=trivial
   rotate_left
   have ec:decide (0<(ba b p).length)=false:=decide_eq_false hc
   by_cases hd:1<(ba b p).length
   have ed:decide (1<(ba b p).length)=true:=decide_eq_true hd
   have HB:=Lib.hid (HBD.out (by first|(rw [HNG.out (by omega)];have:=Hk.out;first|(rw [decide_eq_true (by omega)];rfl)|(rw [decide_eq_false (by omega),decide_eq_false (by omega)];rfl))|(rw [HPS.out (by omega)];rw [decide_eq_false (by omega)])|(exfalso;omega)))
   have isF:=trivial
   rotate_left
   have ed:decide (1<(ba b p).length)=false:=decide_eq_false hd
   have HG:=Lib.hid (show dW b n=true by first|(rw [HNG.out (by omega)];have:=Hk.out;rw [decide_eq_false (by omega),decide_eq_true (by omega)];rfl)|(rw [HPS.out (by omega)];rw [decide_eq_true (by omega)]))
   have isP:=trivial
   rotate_left
   have ea:decide (p<0)=false:=decide_eq_false ha
   by_cases hd:1<(ba b p).length
   have ed:decide (1<(ba b p).length)=true:=decide_eq_true hd
   have HB:=Lib.hid (HBD.out (by first|(rw [HNG.out (by omega)];have:=Hk.out;first|(rw [decide_eq_true (by omega)];rfl)|(rw [decide_eq_false (by omega),decide_eq_false (by omega)];rfl))|(rw [HPS.out (by omega)];rw [decide_eq_false (by omega)])|(exfalso;omega)))
   have isF:=trivial
   rotate_left
   have ed:decide (1<(ba b p).length)=false:=decide_eq_false hd
   have HG:=Lib.hid (show dW b n=true by first|(rw [HNG.out (by omega)];have:=Hk.out;rw [decide_eq_false (by omega),decide_eq_true (by omega)];rfl)|(rw [HPS.out (by omega)];rw [decide_eq_true (by omega)]))
   have isP:=trivial
   all_goals go_wp2_with fail
   all_goals first|(have:=isF;all_goals go_ret;all_goals exact ⟨am HB.out.symm,xw⟩)|(have:=isP;go_roundw;(case rel=>exact ⟨n+1,by have:=HPP.out;congr 1;omega,by omega,by rw [HS.out,HOK.out,HG.out];rfl,xw⟩);· simp only [intOf];omega)
  ·have hne:n=b.roots.toNat+b.nodes.length:=by omega
   subst hne
   have HAL:=Lib.hid (nZ b hrr.1)
   have hln:((ap b:Nat):Int)=b.edges+b.outer.length:=by unfold ap;omega
   clear hpp
   go_wp2
   go_loopw [55] (fun c wi=>∃i:Nat,c=.int .i64 i∧i≤ap b∧(List.range i).all (dq b)=true∧Ext W0 wi) (fun c _=>ap b - (intOf c).toNat)
   case atStart=>exact ⟨0,rfl,Nat.zero_le _,rfl,xw⟩
   case round=>
    obtain ⟨i,rfl,hi0,hok,hxi⟩:=hrel
    have HOK2:=Lib.hid hok
    clear hok
    have hXi:Ext w wr:=hx0.trans hxi
    have s0:=hxi.keep p0
    have s1:=hxi.keep p1
    have s2:=hxi.keep p2
    have s3:=hxi.keep p3
    have s4:=hxi.keep p4
    have s5:=hxi.keep p5
    have hB2:=bW.keeps _ _ _ _ _ _ (bV.ext hxi) hB
    by_cases hil:i<ap b
    ·have HS2:=Lib.hid (bM (dq b) i)
     have HBL:=Lib.hid (vw i hil)
     have HLS:=Lib.hid (tg b i)
     cases hid:nz b i
     ·have HI:=Lib.hid hid
      clear hid
      go_wp2_with (go_at_call 209;refine (fO lo hi [.int .i64 b.roots,.slice a1 b.nodes.length k1,v2,.int .i64 b.edges,.slice a4 b.outer.length k4,.slice a5 b.inner.length k5] b i _ hB2 hdn HD.out.links hdi).mono ?_;rintro e y ⟨rfl,hb⟩;rw [HI.out])
      go_roundw
      case rel=>exact ⟨i+1,rfl,by omega,by rw [HS2.out,HOK2.out,HLS.out,HI.out];rfl,xw⟩
      ·simp only [intOf];omega
     ·have HI:=Lib.hid hid
      clear hid
      go_wp2_with (go_at_call 209;refine (fO lo hi [.int .i64 b.roots,.slice a1 b.nodes.length k1,v2,.int .i64 b.edges,.slice a4 b.outer.length k4,.slice a5 b.inner.length k5] b i _ hB2 hdn HD.out.links hdi).mono ?_;rintro e y ⟨rfl,hb⟩;rw [HI.out])
      go_ret
      exact ⟨am (HBL.out (by rw [HLS.out,HI.out];rfl)).symm,xw⟩
    ·have hie:i=ap b:=by omega
     subst hie
     go_wp2
     go_ret
     exact ⟨am (by have h1:=HAL.out;rw [HOK.out] at h1;have h2:=Bool.and_eq_true_iff.1 h1.symm;exact (pQ HIN.out Hr.out h2.1 h2.2 HOK2.out).symm),xw⟩
end Go.Proofs.YtclpbhoekmecjaaGreatDoor
namespace Go.Proofs.YtclpbhoekmecjaaGreatDoor
open Go.RowKit
set_option linter.unusedVariables false
set_option linter.unusedSimpArgs false
def fH (l:List Int) (n:Int):Bool:=l.any (fun x=>x == n)
attribute [local irreducible] inR
end Go.Proofs.YtclpbhoekmecjaaGreatDoor
namespace Go.Proofs.YtclpbhoekmecjaaGreatDoor
open Go.RowKit
set_option linter.unusedVariables false
set_option linter.unusedSimpArgs false
theorem eB {sig:List Ctl} {b:Big} (h:ay sig b=true) (i:Nat) (hi:i<b.nodes.length):0≤(b.nodes[i]).control∧(b.nodes[i]).control<sig.length∧dB sig b (b.nodes[i]).parent i=true∧((b.nodes[i]).links.length:Int)=(tK sig (b.nodes[i]).control).ports∧∀l∈(b.nodes[i]).links,dJ b l=true:=by
 have h3:=(aD _ _).1 (cN h).2.1 i hi
 rw [ma sig b i hi] at h3
 simp only [Bool.and_eq_true,decide_eq_true_eq] at h3
 have hc:=bL h3.1
 refine ⟨hc.1,by omega,h3.2.1,h3.2.2.1,fun l hl=>?_⟩
 have h4:=h3.2.2.2
 simp only [Bool.not_eq_true',List.any_eq_false] at h4
 simpa using h4 l hl
theorem iP {sig:List Ctl} {b:Big} (h:ay sig b=true) (i:Nat) (hi:i<b.nodes.length) : -b.roots≤(b.nodes[i]).parent∧(b.nodes[i]).parent<i:=by
 obtain ⟨_,_,hu,_⟩:=eB h i hi
 have hr:inR b.roots 0 4=true:=(de (cN h).1).2.1
 have:=bL hr
 unfold dB at hu
 split at hu
 ·simp only [decide_eq_true_eq] at hu;omega
 ·simp only [Bool.and_eq_true,decide_eq_true_eq] at hu;omega
def kL (b:Big) (f:Int→Bool):Nat→Int→Bool
 | 0,_=>false
 | n+1,p=>if p<0 then false else f p || kL b f n (eA b p).parent
def jy (b:Big) (f:Int→Bool) (p:Int):Bool:=kL b f (p.toNat+1) p
theorem xz {sig:List Ctl} {b:Big} (h:ay sig b=true) (f:Int→Bool):∀(m n:Nat) (p:Int),p<b.nodes.length→p.toNat<m→p.toNat<n→kL b f m p=kL b f n p:=by
 intro m
 induction m with
 | zero=>intro n p _ hf;omega
 | succ m ih=>
  intro n p hp hf hg
  cases n with
  | zero=>omega
  | succ n=>
   unfold kL
   by_cases hn:p<0
   ·rw [if_pos hn,if_pos hn]
   ·rw [if_neg hn,if_neg hn]
    obtain ⟨k,rfl⟩:=Int.eq_ofNat_of_zero_le (show 0≤p by omega)
    have hl:k<b.nodes.length:=by omega
    have:=iP h k hl
    rw [aA b k hl]
    congr 1
    by_cases hq:(b.nodes[k]).parent<0
    ·cases m <;> cases n <;> simp [kL,hq]
    ·exact ih n _ (by omega) (by omega) (by omega)
theorem ew (b:Big) (f:Int→Bool) {p:Int} (h:p<0):jy b f p=false:=by
 unfold jy kL;rw [if_pos h]
theorem eN {sig:List Ctl} {b:Big} (h:ay sig b=true) (f:Int→Bool) (k:Nat) (hk:k<b.nodes.length):jy b f (k:Int)=(f k || jy b f (b.nodes[k]).parent):=by
 have hp:=iP h k hk
 have e:jy b f (k:Int)=(f k || kL b f k (b.nodes[k]).parent):=by
  unfold jy
  rw [show ((k:Int).toNat+1)=k+1 by omega,kL,if_neg (by omega),aA b k hk]
 rw [e]
 congr 1
 by_cases hq:(b.nodes[k]).parent<0
 ·rw [ew b f hq]
  cases k with
  | zero=>rfl
  | succ k=>rw [kL,if_pos hq]
 ·exact xz h f _ _ _ (by omega) (by omega) (by omega)
theorem tz {sig:List Ctl} {b:Big} (h:ay sig b=true) {f g:Int→Bool} (hfg:∀k:Nat,k<b.nodes.length→f k=g k):∀(n:Nat) (p:Int),p<n→p<b.nodes.length→jy b f p=jy b g p:=by
 intro n
 induction n with
 | zero=>intro p hp _;rw [ew b f (by omega),ew b g (by omega)]
 | succ n ih=>
  intro p hp hl
  by_cases hq:p<0
  ·rw [ew b f hq,ew b g hq]
  ·obtain ⟨k,rfl⟩:=Int.eq_ofNat_of_zero_le (show 0≤p by omega)
   have hk:k<b.nodes.length:=by omega
   have:=iP h k hk
   rw [eN h f k hk,eN h g k hk,hfg k hk,ih _ (by omega) (by omega)]
def g9 (b:Big) (ns:List Int) (p:Int):Bool:=jy b (fH ns) p
def rE (sig:List Ctl) (b:Big) (p:Int):Bool:=decide ((tK sig (eA b p).control).kind=1)
def kO (sig:List Ctl) (b:Big) (p:Int):Bool:=jy b (rE sig b) p
def iD (sig:List Ctl) (b:Big) (rs:List Int):Bool:=rs.all fun p=>!kO sig b p
structure Mat where
 nodes:List Int
 roots:List Int
def atI (l:List Int) (i:Int):Int:=l.getD i.toNat 0
def FT (r:Big) (m:Mat) (i:Nat):Int:=if 0≤(eA r i).parent then atI m.nodes (eA r i).parent else atI m.roots (-1 - (eA r i).parent)
def tL (a:Big) (ns:List Int) (i:Nat):Bool:=inR (atI ns i) 0 (a.nodes.length - 1) && !fH (ns.take i) (atI ns i)
def sV (r a:Big) (ns:List Int) (i:Nat):Bool:=decide ((eA a (atI ns i)).control=(eA r i).control)
def ou (r a:Big) (m:Mat) (i:Nat):Bool:=decide ((eA a (atI m.nodes i)).parent=FT r m i)
def ky (r a:Big) (m:Mat) (i:Nat):Bool:=!(decide ((ba r i).length=0)) || (eH a (atI m.nodes i)).all (fH m.nodes)
def jA (a:Big) (ns:List Int) (p:Int):Bool:=inR p (-a.roots) (a.nodes.length - 1) && !g9 a ns p
def dE (a:Big) (ns:List Int) (q:Int × Int):Int:=atI (eA a (atI ns q.1)).links q.2
def jd (r a:Big) (ns:List Int) (l:Int):Int:=match aw r l with | []=>-1|q :: _=>dE a ns q
def dZ (r a:Big) (ns:List Int) (l:Nat):Bool:=(aw r l).all (fun q=>decide (dE a ns q=jd r a ns l)) && (!(decide ((l:Int)<r.edges)) || (decide (jd r a ns l<a.edges) && decide ((aw a (jd r a ns l)).length=(aw r l).length)))
def dO (r a:Big) (ns:List Int):Bool:=(List.range (ap r)).all (dZ r a ns)
def aF (r a:Big) (ns:List Int):List Int:=(List.range (ap r)).map (fun (l:Nat)=>jd r a ns l)
def qi (r a:Big) (ns:List Int):Bool:=decide (ns.length=r.nodes.length) && ((List.range ns.length).all (tL a ns) && (List.range ns.length).all (sV r a ns))
def fp (r a:Big) (m:Mat):Bool:=m.roots.all (jA a m.nodes) && decide ((m.roots.length:Int)=r.roots)
def eW (r a:Big) (m:Mat):Bool:=(qi r a m.nodes && fp r a m) && ((List.range m.nodes.length).all (ou r a m) && ((List.range m.nodes.length).all (ky r a m) && dO r a m.nodes))
def aQ (r:Big) (l:Int) (k i:Nat):List (Int × Int):=cU r l k++bR (eA r k).links l k i
theorem m8 (r:Big) (l:Int):aQ r l 0 0 = []:=rfl
theorem jL (r:Big) (l:Int) (k:Nat) (hk:k<r.nodes.length):aQ r l (k+1) 0=aQ r l k (r.nodes[k]).links.length:=by
 unfold aQ
 rw [eZ r l k hk,aA r k hk]
 simp [bR]
theorem jm (r:Big) (l:Int) (k i:Nat) (hk:k<r.nodes.length) (hi:i<(r.nodes[k]).links.length) (h:(r.nodes[k]).links[i]=l):aQ r l k (i+1)=aQ r l k i++[((k:Int),(i:Int))]:=by
 unfold aQ
 rw [aA r k hk,jx hi h,List.append_assoc]
theorem pG (r:Big) (l:Int) (k i:Nat) (hk:k<r.nodes.length) (hi:i<(r.nodes[k]).links.length) (h:¬(r.nodes[k]).links[i]=l):aQ r l k (i+1)=aQ r l k i:=by
 unfold aQ
 rw [aA r k hk,kw hi h]
theorem js (r:Big) (l:Int):aQ r l r.nodes.length 0=aw r l:=by unfold aQ aw;simp [bR]
theorem jl (r:Big) (l:Int) (k i:Nat) (hk:k<r.nodes.length) (hi:i≤(r.nodes[k]).links.length):∃t,aw r l=aQ r l k i++t:=by
 have step:∀n j,j+n=(r.nodes[k]).links.length→∃t,bR (r.nodes[k]).links l k (r.nodes[k]).links.length=bR (r.nodes[k]).links l k j++t:=by
  intro n
  induction n with
  | zero=>intro j hj;exact ⟨[],by rw [← hj];simp⟩
  | succ n ih=>
   intro j hj
   obtain ⟨t,ht⟩:=ih (j+1) (by omega)
   by_cases h:(r.nodes[k]).links[j]'(by omega)=l
   ·rw [jx (by omega) h] at ht;exact ⟨_,by rw [ht,List.append_assoc]⟩
   ·rw [kw (by omega) h] at ht;exact ⟨t,ht⟩
 have all:∀n m,m+n=r.nodes.length→∃t,cU r l r.nodes.length=cU r l m++t:=by
  intro n
  induction n with
  | zero=>intro m hm;exact ⟨[],by rw [← hm];simp⟩
  | succ n ih=>
   intro m hm
   obtain ⟨t,ht⟩:=ih (m+1) (by omega)
   rw [eZ r l m (by omega),List.append_assoc] at ht
   exact ⟨_,ht⟩
 obtain ⟨t1,h1⟩:=step _ i (by omega:i+((r.nodes[k]).links.length - i)=_)
 obtain ⟨t2,h2⟩:=all _ (k+1) (by omega:k+1+(r.nodes.length - (k+1))=_)
 rw [eZ r l k hk,h1] at h2
 exact ⟨t1++t2,by unfold aw aQ;rw [h2,aA r k hk];simp⟩
def jD (a:Big) (ns:List Int) (ps:List (Int × Int)):Int:=match ps with | []=>-1|q :: _=>dE a ns q
theorem tH (r a:Big) (ns:List Int) (l:Int):jd r a ns l=jD a ns (aw r l):=rfl
def iA (r a:Big) (ns:List Int) (k i:Nat):List Int:=(List.range (ap r)).map fun (l:Nat)=>jD a ns (aQ r l k i)
def gQ (r a:Big) (ns:List Int) (k i:Nat):Prop:=∀l:Nat,l<ap r→∀q∈aQ r l k i,dE a ns q=jD a ns (aQ r l k i)
theorem Bh (r a:Big) (ns:List Int) (k i:Nat):(iA r a ns k i).length=ap r:=by simp [iA]
theorem nD (r a:Big) (ns:List Int) (k i l:Nat) (h:l<(iA r a ns k i).length):(iA r a ns k i)[l]=jD a ns (aQ r l k i):=by simp [iA]
theorem xa (r a:Big) (ns:List Int):iA r a ns 0 0=List.replicate (ap r) (-1):=by
 apply List.ext_getElem
 ·simp [iA]
 ·intro i h1 h2;rw [nD,m8,List.getElem_replicate];rfl
theorem xD (r a:Big) (ns:List Int) (k:Nat) (hk:k<r.nodes.length):iA r a ns (k+1) 0=iA r a ns k (r.nodes[k]).links.length:=by
 unfold iA;congr 1;funext l;rw [jL r l k hk]
theorem xk (r a:Big) (ns:List Int):gQ r a ns 0 0:=fun l _ q hq=>by rw [m8] at hq;cases hq
theorem xu {r a:Big} {ns:List Int} {k:Nat} (hk:k<r.nodes.length) (h:gQ r a ns k (r.nodes[k]).links.length):gQ r a ns (k+1) 0:=fun l hl q hq=>by
 rw [jL r l k hk] at hq ⊢;exact h l hl q hq
theorem Aw (r a:Big) (ns:List Int):iA r a ns r.nodes.length 0=aF r a ns:=by
 unfold iA aF;congr 1;funext l;rw [js];rfl
theorem xZ (a:Big) (ns:List Int) (ps:List (Int × Int)) (q:Int × Int):jD a ns (ps++[q])=if ps = [] then dE a ns q else jD a ns ps:=by cases ps <;> simp [jD]
theorem xK {r a:Big} {ns:List Int} {k i l:Nat} (hk:k<r.nodes.length) (hi:i<(r.nodes[k]).links.length) (hl:(r.nodes[k]).links[i]=(l:Int)) (hll:l<ap r)
 (hag:gQ r a ns k i) (hno:jD a ns (aQ r l k i)<0∨jD a ns (aQ r l k i)=dE a ns ((k:Int),(i:Int))) (h0:∀q∈aQ r l k i,0≤dE a ns q) :
 iA r a ns k (i+1)=(iA r a ns k i).set l (dE a ns ((k:Int),(i:Int)))∧gQ r a ns k (i+1):=by
 have hy:=jm r l k i hk hi hl
 have hn:∀m:Nat,m≠l→aQ r m k (i+1)=aQ r m k i:=fun m hm=>pG r m k i hk hi (by rw [hl];omega)
 have hem:aQ r l k i≠[]→jD a ns (aQ r l k i)=dE a ns ((k:Int),(i:Int)):=fun hne=>by
  refine hno.resolve_left (fun h=>?_)
  cases hp:aQ r l k i with
  | nil=>exact hne hp
  | cons q t=>
   have:=h0 q (by rw [hp];simp)
   rw [hp] at h
   unfold jD at h
   dsimp only at h
   omega
 have hh:jD a ns (aQ r l k (i+1))=dE a ns ((k:Int),(i:Int)):=by
  rw [hy,xZ]
  split
  ·rfl
  ·exact hem (by assumption)
 refine ⟨?_,fun m hm q hq=>?_⟩
 ·apply List.ext_getElem
  ·simp [iA]
  ·intro m h1 h2
   rw [nD,List.getElem_set]
   by_cases e:l=m
   ·subst e;rw [if_pos rfl,hh]
   ·rw [if_neg e,nD,hn m (fun h=>e h.symm)]
 ·by_cases e:m=l
  ·subst e
   rw [hh]
   rw [hy] at hq
   rcases List.mem_append.1 hq with hq|hq
   ·rw [hag m hm q hq];exact hem (fun h=>by rw [h] at hq;cases hq)
   ·rw [List.mem_singleton.1 hq]
  ·rw [hn m e] at hq ⊢;exact hag m hm q hq
theorem xm {r a:Big} {ns:List Int} {k i l:Nat} (hk:k<r.nodes.length) (hi:i<(r.nodes[k]).links.length) (hl:(r.nodes[k]).links[i]=(l:Int)) (h0:0≤jD a ns (aQ r l k i)) (hne:¬jD a ns (aQ r l k i)=dE a ns ((k:Int),(i:Int))):dZ r a ns l=false:=by
 obtain ⟨t,ht⟩:=jl r l k (i+1) hk hi
 rw [jm r l k i hk hi hl] at ht
 have hp:aQ r l k i≠[]:=fun h=>by rw [h] at h0;simp [jD] at h0
 have hh:jd r a ns l=jD a ns (aQ r l k i):=by
  rw [tH,ht]
  cases hq:aQ r l k i with
  | nil=>exact absurd hq hp
  | cons q u=>rfl
 unfold dZ
 rw [Bool.and_eq_false_iff]
 left
 rw [List.all_eq_false]
 refine ⟨((k:Int),(i:Int)),by rw [ht];simp,?_⟩
 rw [hh]
 simp only [decide_eq_true_eq]
 exact fun h=>hne h.symm
theorem kj {r a:Big} {ns:List Int} {l:Nat} (hl:l<ap r) (h:dZ r a ns l=false):dO r a ns=false:=aT _ _ l hl h
theorem oe {r a:Big} {ns:List Int} (h:gQ r a ns r.nodes.length 0) (l:Nat) (hl:l<ap r):(aw r l).all (fun q=>decide (dE a ns q=jd r a ns l))=true:=by
 rw [List.all_eq_true]
 intro q hq
 have:=h l hl q (by rw [js];exact hq)
 rw [js] at this
 exact decide_eq_true this
theorem bz {f:Nat→Bool} {n:Nat} {x:Int}:x∈idxOf f n↔∃i:Nat,i<n∧f i=true∧x=i:=by
 unfold idxOf
 simp only [List.mem_map,List.mem_filter,List.mem_range]
 constructor
 ·rintro ⟨i,⟨h1,h2⟩,h3⟩;exact ⟨i,h1,h2,h3.symm⟩
 ·rintro ⟨i,h1,h2,h3⟩;exact ⟨i,⟨h1,h2⟩,h3.symm⟩
theorem cS {l:List Int} {n:Int}:fH l n=true↔n∈l:=by
 unfold fH;rw [List.any_eq_true];constructor
 ·rintro ⟨x,h1,h2⟩;rw [beq_iff_eq] at h2;rw [← h2];exact h1
 ·exact fun h=>⟨n,h,by simp⟩
theorem xx (f:Nat→Bool) (n k:Nat) (h:k<n):fH (idxOf f n) (k:Int)=f k:=by
 rw [Bool.eq_iff_iff,cS,bz]
 constructor
 ·rintro ⟨i,_,h2,h3⟩;rw [show k=i by omega];exact h2
 ·exact fun h2=>⟨k,h,h2,rfl⟩
theorem CD {sig:List Ctl} {b:Big} (h:ay sig b=true) {p:Int} (hp:p<b.nodes.length):g9 b (idxOf (fun i=>rE sig b i) b.nodes.length) p=kO sig b p:=
 tz h (fun k hk=>xx _ _ k hk) (p.toNat+1) p (by omega) hp
def fU (r a:Big) (m:Mat) (i:Nat):Bool:=sV r a m.nodes i && (ou r a m i && ky r a m i)
theorem Cz (f g h:Nat→Bool) (n:Nat):(List.range n).all (fun i=>f i && (g i && h i))=((List.range n).all f && ((List.range n).all g && (List.range n).all h)):=by
 rw [Bool.eq_iff_iff]
 simp only [Bool.and_eq_true,aD]
 exact ⟨fun k=>⟨fun i hi=>(k i hi).1,fun i hi=>(k i hi).2.1,fun i hi=>(k i hi).2.2⟩,fun k i hi=>⟨k.1 i hi,k.2.1 i hi,k.2.2 i hi⟩⟩
theorem yd (r a:Big) (m:Mat):eW r a m=((decide (m.nodes.length=r.nodes.length) && decide ((m.roots.length:Int)=r.roots)) && ((List.range m.nodes.length).all (tL a m.nodes) && (m.roots.all (jA a m.nodes) && ((List.range m.nodes.length).all (fU r a m) && dO r a m.nodes)))):=by
 have e:(List.range m.nodes.length).all (fU r a m)=((List.range m.nodes.length).all (sV r a m.nodes) && ((List.range m.nodes.length).all (ou r a m) && (List.range m.nodes.length).all (ky r a m))):=Cz _ _ _ _
 rw [e]
 unfold eW qi fp
 rw [Bool.eq_iff_iff]
 simp only [Bool.and_eq_true]
 constructor
 ·rintro ⟨⟨⟨h1,h2,h3⟩,h4,h5⟩,h6,h7,h8⟩;exact ⟨⟨h1,h5⟩,h2,h4,⟨h3,h6,h7⟩,h8⟩
 ·rintro ⟨⟨h1,h5⟩,h2,h4,⟨h3,h6,h7⟩,h8⟩;exact ⟨⟨⟨h1,h2,h3⟩,h4,h5⟩,h6,h7,h8⟩
theorem cW (f:Nat→Bool) (n:Nat):(List.range (n+1)).all f=((List.range n).all f && f n):=by rw [List.range_succ,List.all_append];simp
theorem ff (f:Nat→Bool) (n i:Nat) (h:n≤i) (hi:i≤n) (ha:(List.range i).all f=true):(List.range n).all f=true:=by rw [show n=i by omega];exact ha
def EH (r a:Big) (ns:List Int) (i:Nat):Bool:=tL a ns i && sV r a ns i
theorem ww (r a:Big) (ns:List Int):qi r a ns=(decide (ns.length=r.nodes.length) && (List.range ns.length).all (EH r a ns)):=by
 unfold qi EH
 congr 1
 rw [Bool.eq_iff_iff]
 simp only [Bool.and_eq_true,aD]
 exact ⟨fun h i hi=>⟨h.1 i hi,h.2 i hi⟩,fun h=>⟨fun i hi=>(h i hi).1,fun i hi=>(h i hi).2⟩⟩
theorem Fj (r a:Big) (ns:List Int) (i:Nat) (h:i<ns.length) (hr:i<r.nodes.length):EH r a ns i=((inR ns[i] 0 ((a.nodes.length:Int) - 1) && !fH (ns.take i) ns[i]) && decide ((eA a ns[i]).control=(r.nodes[i]).control)):=by
 unfold EH tL sV
 rw [show atI ns (i:Int)=ns[i] by unfold atI;simp [h],aA r i hr]
theorem e9 {α:Type} (p:α→Bool) (xs:List α) (i:Nat) (h:xs.length≤i) (hp:(xs.take i).all p=true):xs.all p=true:=by rwa [List.take_of_length_le h] at hp
theorem Gd {w:World} {size:Nat} {α:Type} {P:Lie α} {lo hi:Nat} {a:Option Addr} {k:Nat} (hk:k≤maxLen) (ha:a=none→k=0):SlV size P lo hi w (.slice a 0 k) []:=⟨a,k,rfl,Nat.zero_le _,hk,ha,.inl rfl⟩
end Go.Proofs.YtclpbhoekmecjaaGreatDoor
namespace Go.Proofs.YtclpbhoekmecjaaGreatDoor
open Go.RowKit
set_option linter.unusedVariables false
set_option linter.unusedSimpArgs false
theorem iS {α:Type} (lt:α→α→Prop) (irr:∀x,¬lt x x) {l:List α} (h:l.Pairwise lt):l.Nodup:=by
 refine List.Pairwise.imp ?_ h
 intro a b hab e
 subst e
 exact irr _ hab
theorem kU {links:List Int} {l:Int} {i k:Nat} {q:Int × Int}:q∈bR links l i k↔∃j:Nat,j<k∧links.getD j 0=l∧q=((i:Int),(j:Int)):=by
 unfold bR
 simp only [List.mem_map,List.mem_filter,List.mem_range,decide_eq_true_eq]
 constructor
 ·rintro ⟨j,⟨h1,h2⟩,h3⟩;exact ⟨j,h1,h2,h3.symm⟩
 ·rintro ⟨j,h1,h2,h3⟩;exact ⟨j,⟨h1,h2⟩,h3.symm⟩
theorem dG {b:Big} {l:Int} {q:Int × Int}:q∈aw b l↔∃(i j:Nat) (hi:i<b.nodes.length) (hj:j<(b.nodes[i]).links.length),(b.nodes[i]).links[j]=l∧q=((i:Int),(j:Int)):=by
 unfold aw cU
 simp only [List.mem_flatMap,List.mem_range,kU]
 constructor
 ·rintro ⟨i,hi,j,hj,h1,h2⟩
  have e:b.nodes.getD i ⟨0,0,[]⟩=b.nodes[i]:=by simp [hi]
  rw [e] at hj h1
  exact ⟨i,j,hi,hj,by rw [← h1];simp [hj],h2⟩
 ·rintro ⟨i,j,hi,hj,h1,h2⟩
  have e:b.nodes.getD i ⟨0,0,[]⟩=b.nodes[i]:=by simp [hi]
  exact ⟨i,hi,j,by rw [e];exact hj,by rw [e,← h1];simp [hj],h2⟩
theorem sA (b:Big) (l:Int):(aw b l).Nodup:=by
 have h:∀n,(cU b l n).Pairwise (fun p q:Int × Int=>p.1<q.1∨(p.1=q.1∧p.2<q.2)):=by
  intro n
  unfold cU
  rw [List.pairwise_flatMap]
  refine ⟨fun i _=>?_,?_⟩
  ·unfold bR
   rw [List.pairwise_map]
   exact (List.Pairwise.filter _ List.pairwise_lt_range).imp (fun h=>.inr ⟨rfl,by show (_:Int)<_;omega⟩)
  ·refine List.pairwise_lt_range.imp (fun {i j} hij x hx y hy=>?_)
   obtain ⟨_,_,_,rfl⟩:=kU.1 hx
   obtain ⟨_,_,_,rfl⟩:=kU.1 hy
   exact .inl (by show (_:Int)<_;omega)
 exact iS _ (fun x h=>by omega) (h _)
theorem sU {α:Type} [DecidableEq α]:∀(xs ys:List α),xs.Nodup→(∀x∈xs,x∈ys)→ys.length≤xs.length→∀y∈ys,y∈xs:=by
 intro xs
 induction xs with
 | nil=>intro ys _ _ hl y hy;cases ys <;> simp at *
 | cons x xs ih=>
  intro ys hn hs hl y hy
  rw [List.nodup_cons] at hn
  by_cases e:y=x
  ·simp [e]
  ·refine List.mem_cons_of_mem _ (ih (ys.erase x) hn.2 (fun z hz=>?_) ?_ y ((List.mem_erase_of_ne e).2 hy))
   ·have:z≠x:=fun h=>hn.1 (by rw [← h];exact hz)
    exact (List.mem_erase_of_ne this).2 (hs z (by simp [hz]))
   ·rw [List.length_erase_of_mem (hs x (by simp))];simp at hl;omega
theorem bJ (l:List Int) (i:Nat) (h:i<l.length):atI l (i:Int)=l[i]:=by unfold atI;simp [h]
theorem uM {l:List Int} {i:Int} (h0:0≤i) (h:i<l.length):atI l i∈l:=by
 obtain ⟨k,rfl⟩:=Int.eq_ofNat_of_zero_le h0
 rw [bJ l k (by omega)];exact List.getElem_mem _
structure mf (r a:Big) (ns:List Int):Prop where
 len:ns.length=r.nodes.length
 at':∀i (h:i<r.nodes.length),∃(m:Nat) (hm:m<a.nodes.length),atI ns (i:Int)=(m:Int)∧(a.nodes[m]).control=(r.nodes[i]).control
 inj:∀i j,i<r.nodes.length→j<r.nodes.length→atI ns (i:Int)=atI ns (j:Int)→i=j
theorem jP {r a:Big} {ns:List Int} (h:qi r a ns=true):mf r a ns:=by
 unfold qi at h
 simp only [Bool.and_eq_true,decide_eq_true_eq] at h
 obtain ⟨h1,h2,h3⟩:=h
 rw [aD] at h2 h3
 refine ⟨h1,fun i hi=>?_,fun i j hi hj e=>?_⟩
 ·have h4:=h2 i (by omega)
  have h5:=h3 i (by omega)
  unfold tL at h4
  unfold sV at h5
  simp only [Bool.and_eq_true,decide_eq_true_eq] at h4 h5
  have h6:=bL h4.1
  obtain ⟨m,hm⟩:=Int.eq_ofNat_of_zero_le h6.1
  refine ⟨m,by omega,hm,?_⟩
  rw [hm,aA a m (by omega),aA r i hi] at h5
  exact h5
 ·have key:∀i j,i<j→j<ns.length→atI ns (i:Int)=atI ns (j:Int)→False:=fun i j hij hj e=>by
   have h4:=h2 j hj
   unfold tL at h4
   simp only [Bool.and_eq_true,Bool.not_eq_true'] at h4
   have h5:fH (ns.take j) (atI ns (j:Int))=true:=cS.2 (by
    rw [← e,bJ ns i (by omega)]
    exact List.mem_take_iff_getElem.2 ⟨i,by omega,rfl⟩)
   rw [h5] at h4
   exact absurd h4.2 (by simp)
  rcases Nat.lt_trichotomy i j with h|h|h
  ·exact (key i j h (by omega) e).elim
  ·exact h
  ·exact (key j i h (by omega) e.symm).elim
theorem BW {r a:Big} {ns rs:List Int} (h1:(List.range ns.length).all (tL a ns)=true) (h2:(List.range ns.length).all (fU r a ⟨ns,rs⟩)=true) (h3:ns.length=r.nodes.length):mf r a ns:=by
 refine jP ?_
 unfold qi
 rw [decide_eq_true h3,h1]
 rw [aD] at h2
 rw [Bool.true_and,Bool.true_and,aD]
 intro i hi
 have:=h2 i hi
 unfold fU at this
 rw [Bool.and_eq_true] at this
 exact this.1
theorem mf.ports {sig:List Ctl} {r a:Big} {ns:List Int} (h:mf r a ns) (hr:ay sig r=true) (ha:ay sig a=true) {i m:Nat} (hi:i<r.nodes.length) (hm:m<a.nodes.length) (e:atI ns (i:Int)=(m:Int)):(a.nodes[m]).links.length=(r.nodes[i]).links.length:=by
 obtain ⟨m',hm',e',hc⟩:=h.at' i hi
 have:m'=m:=by omega
 subst this
 have h1:=(eB hr i hi).2.2.2.1
 have h2:=(eB ha m' hm').2.2.2.1
 rw [hc] at h2
 omega
theorem mf.img {sig:List Ctl} {r a:Big} {ns:List Int} (h:mf r a ns) (hr:ay sig r=true) (ha:ay sig a=true) {i j:Nat} (hi:i<r.nodes.length) (hj:j<(r.nodes[i]).links.length):∃(m:Nat) (hm:m<a.nodes.length) (hl:j<(a.nodes[m]).links.length),atI ns (i:Int)=(m:Int)∧dE a ns ((i:Int),(j:Int))=(a.nodes[m]).links[j]:=by
 obtain ⟨m,hm,e,_⟩:=h.at' i hi
 have hl:=h.ports hr ha hi hm e
 refine ⟨m,hm,by omega,e,?_⟩
 unfold dE
 rw [e,aA a m hm,bJ _ j (by omega)]
theorem mf.img_link {sig:List Ctl} {r a:Big} {ns:List Int} (h:mf r a ns) (hr:ay sig r=true) (ha:ay sig a=true) {l:Int} {q:Int × Int} (hq:q∈aw r l):dJ a (dE a ns q)=true:=by
 obtain ⟨i,j,hi,hj,_,rfl⟩:=dG.1 hq
 obtain ⟨m,hm,hl,_,e⟩:=h.img hr ha hi hj
 rw [e]
 exact (eB ha m hm).2.2.2.2 _ (List.getElem_mem _)
theorem mz {r a:Big} {ns rs:List Int} (h:fp r a ⟨ns,rs⟩=true):(rs.length:Int)=r.roots:=by
 unfold fp at h
 simp only [Bool.and_eq_true,decide_eq_true_eq] at h
 exact h.2
theorem FA {a:Big} {ns:List Int} (h:(List.range ns.length).all (tL a ns)=true) (i:Nat) (hi:i<ns.length):∃(m:Nat) (hm:m<a.nodes.length),atI ns (i:Int)=(m:Int):=by
 have h4:=(aD _ _).1 h i hi
 unfold tL at h4
 simp only [Bool.and_eq_true] at h4
 have h6:=bL h4.1
 obtain ⟨m,hm⟩:=Int.eq_ofNat_of_zero_le h6.1
 exact ⟨m,by omega,hm⟩
theorem gz {b:Big} {l:Int} (h:dJ b l=true):∃n:Nat,l=(n:Int)∧n<ap b:=by
 unfold dJ at h
 have:=bL h
 obtain ⟨n,hn⟩:=Int.eq_ofNat_of_zero_le this.1
 exact ⟨n,hn,by unfold ap;omega⟩
theorem mf.up_pos {sig:List Ctl} {r a:Big} {ns:List Int} (h:mf r a ns) (hr:ay sig r=true) (ha:ay sig a=true) {l:Int} {k i:Nat} (hk:k<r.nodes.length) (hi:i≤(r.nodes[k]).links.length):∀q∈aQ r l k i,0≤dE a ns q:=by
 intro q hq
 obtain ⟨t,ht⟩:=jl r l k i hk hi
 obtain ⟨n,hn,_⟩:=gz (h.img_link hr ha (q:=q) (l:=l) (by rw [ht];exact List.mem_append_left _ hq))
 omega
theorem zz {r a:Big} {ns:List Int} (h:gQ r a ns r.nodes.length 0) (he:∀l:Nat,(l:Int)<r.edges→l<ap r→dZ r a ns l=true):dO r a ns=true:=by
 unfold dO
 rw [aD]
 intro l hl
 by_cases hle:(l:Int)<r.edges
 ·exact he l hle hl
 ·unfold dZ
  rw [oe h l hl,decide_eq_false hle]
  rfl
theorem CJ {r a:Big} {ns:List Int} (h:gQ r a ns r.nodes.length 0) (l:Nat) (hl:l<ap r) (hle:(l:Int)<r.edges):dZ r a ns l=(decide (jd r a ns l<a.edges) && decide ((aw a (jd r a ns l)).length=(aw r l).length)):=by
 unfold dZ
 rw [oe h l hl,decide_eq_true hle]
 simp
def ly (r a:Big) (ns:List Int):List Int:=if dO r a ns then aF r a ns else []
theorem jM {r a:Big} {ns:List Int} (h:dO r a ns=false):ly r a ns = []:=by unfold ly;rw [h];rfl
theorem iT {r a:Big} {ns:List Int} (h:dO r a ns=true):ly r a ns=aF r a ns:=by unfold ly;rw [h];rfl
def dP (r a:Big) (ns:List Int) (n:Nat):List Int:=(List.range n).map (fun (l:Nat)=>jd r a ns l)
theorem lj (r a:Big) (ns:List Int) (n:Nat):dP r a ns (n+1)=dP r a ns n++[jd r a ns n]:=by unfold dP;rw [List.range_succ,List.map_append];rfl
theorem mf.img_i64 {sig:List Ctl} {r a:Big} {ns:List Int} (h:mf r a ns) (hr:ay sig r=true) (ha:ay sig a=true) {l:Int} (hp:aw r l≠[]):0≤jd r a ns l∧jd r a ns l≤1000:=by
 cases hc:aw r l with
 | nil=>exact absurd hc hp
 | cons q u=>
  have h1:=h.img_link hr ha (q:=q) (l:=l) (by rw [hc];simp)
  have e:jd r a ns l=dE a ns q:=by unfold jd;rw [hc]
  rw [e]
  obtain ⟨h2,_,_,_⟩:=cN ha
  obtain ⟨_,_,_,_,h3,h4,_⟩:=de h2
  have h5:=bL h3
  have h6:=eu h4
  unfold dJ at h1
  have h7:=bL h1
  omega
theorem oc (a:Big) (ns:List Int):∀(ps:List (Int × Int)) (h:0<ps.length),jD a ns ps=dE a ns ps[0]
 | [],h=>by simp at h
 | _ :: _,_=>rfl
theorem gO {b:Big} (h:bZ b=true) (l:Nat) (hl:l<ap b):aw b l≠[]:=by
 unfold bZ at h
 simp only [Bool.and_eq_true,decide_eq_true_eq] at h
 obtain ⟨⟨h1,_⟩,_,_,h5⟩:=h
 have h6:=(aD _ _).1 h5 l hl
 intro he
 have hi:b.inner = []:=List.eq_nil_of_length_eq_zero h1
 unfold dq nz at h6
 rw [he] at h6
 simp [mP,dY,hi] at h6
theorem y7 {sig:List Ctl} {r a:Big} {ns:List Int} (h:mf r a ns) (hr:ay sig r=true) (ha:ay sig a=true) {l:Nat} (hl:dZ r a ns l=true) (he:(l:Int)<r.edges) {q:Int × Int} (hq:q∈aw a (jd r a ns l)):q.1∈ns:=by
 unfold dZ at hl
 simp only [Bool.and_eq_true,Bool.or_eq_true,Bool.not_eq_true',decide_eq_false_iff_not,List.all_eq_true,decide_eq_true_eq] at hl
 obtain ⟨h1,h2⟩:=hl
 obtain ⟨_,h3⟩:=h2.resolve_left (by omega)
 have hin:∀p∈aw r l,∃i j:Nat,i<r.nodes.length∧p=((i:Int),(j:Int))∧(atI ns p.1,p.2)∈aw a (jd r a ns l):=fun p hp=>by
  have h4:=h1 p hp
  obtain ⟨i,j,hi,hj,_,rfl⟩:=dG.1 hp
  obtain ⟨m,hm,hlm,e,e2⟩:=h.img hr ha hi hj
  exact ⟨i,j,hi,rfl,dG.2 ⟨m,j,hm,hlm,by rw [← e2,h4],by show (atI ns (i:Int),_)=_;rw [e]⟩⟩
 have hnd:((aw r l).map (fun p=>(atI ns p.1,p.2))).Nodup:=by
  unfold List.Nodup
  rw [List.pairwise_map]
  refine List.Pairwise.imp_of_mem ?_ (sA r l)
  intro p p' hp hp' hne e
  obtain ⟨i,j,hi,rfl,_⟩:=hin p hp
  obtain ⟨i',j',hi',rfl,_⟩:=hin p' hp'
  simp only [Prod.mk.injEq] at e
  have:=h.inj i i' hi hi' e.1
  exact hne (by rw [this,e.2])
 have hall:=sU _ _ hnd (fun x hx=>by
  obtain ⟨p,hp,rfl⟩:=List.mem_map.1 hx
  exact (hin p hp).elim fun _ ⟨_,_,_,h⟩=>h) (by rw [List.length_map];omega) q hq
 obtain ⟨p,hp,rfl⟩:=List.mem_map.1 hall
 obtain ⟨i,j,hi,rfl,_⟩:=hin p hp
 exact uM (by omega) (by have:=h.len;show (i:Int)<_;omega)
theorem Au {α:Type} {lt:α→α→Prop} (irr:∀x,¬lt x x) (tr:∀x y z,lt x y→lt y z→lt x z):∀l1 l2:List α,l1.Pairwise lt→l2.Pairwise lt→(∀x,x∈l1↔x∈l2)→l1=l2:=by
 intro l1
 induction l1 with
 | nil=>
  intro l2 _ _ h
  cases l2 with
  | nil=>rfl
  | cons y l2=>exact absurd ((h y).2 (by simp)) (by simp)
 | cons x l1 ih=>
  intro l2 h1 h2 h
  cases l2 with
  | nil=>exact absurd ((h x).1 (by simp)) (by simp)
  | cons y l2=>
   rw [List.pairwise_cons] at h1 h2
   have hx:=(h x).1 (by simp)
   have hy:=(h y).2 (by simp)
   have e:x=y:=by
    rcases List.mem_cons.1 hx with e|hx
    ·exact e
    ·rcases List.mem_cons.1 hy with e|hy
     ·exact e.symm
     ·exact absurd (tr _ _ _ (h1.1 y hy) (h2.1 x hx)) (irr x)
   subst e
   rw [ih l2 h1.2 h2.2 (fun z=>⟨fun hz=>?_,fun hz=>?_⟩)]
   ·rcases List.mem_cons.1 ((h z).1 (by simp [hz])) with e|hz2
    ·subst e;exact absurd (h1.1 z hz) (irr z)
    ·exact hz2
   ·rcases List.mem_cons.1 ((h z).2 (by simp [hz])) with e|hz2
    ·subst e;exact absurd (h2.1 z hz) (irr z)
    ·exact hz2
theorem gU (f:Nat→Bool) (n:Nat):(idxOf f n).Pairwise (· < ·):=by
 unfold idxOf
 rw [List.pairwise_map]
 exact (List.Pairwise.filter _ List.pairwise_lt_range).imp (fun h=>by omega)
def di (l:List Int) (x:Int):Int:=if fH l x then (l.idxOf x:Int) else -1
theorem fB {f:Nat→Bool} {n:Nat} (k:Nat) (hk:k<n):di (idxOf f n) (k:Int)=if f k then ((idxOf f k).length:Int) else -1:=by
 unfold di
 by_cases hf:f k=true
 ·have hm:(k:Int)∈idxOf f n:=bz.2 ⟨k,hk,hf,rfl⟩
  rw [if_pos (cS.2 hm),if_pos hf]
  congr 1
  have hsplit:∃t,idxOf f n=idxOf f k++(k:Int) :: t:=by
   obtain ⟨d,rfl⟩:∃d,n=k+1+d:=⟨n - (k+1),by omega⟩
   clear hk hm
   induction d with
   | zero=>exact ⟨[],by rw [Nat.add_zero,cY hf]⟩
   | succ d ih=>
    obtain ⟨t,ht⟩:=ih
    rw [show k+1+(d+1)=(k+1+d)+1 by omega]
    by_cases h2:f (k+1+d)=true
    ·exact ⟨t++[((k+1+d:Nat):Int)],by rw [cY h2,ht];simp⟩
    ·exact ⟨t,by rw [dL (by simpa using h2),ht]⟩
  obtain ⟨t,ht⟩:=hsplit
  rw [ht,List.idxOf_append,if_neg,List.idxOf_cons_self,Nat.zero_add]
  intro h
  obtain ⟨i,hi,_,e⟩:=bz.1 h
  omega
 ·rw [if_neg (fun h=>hf ?_),if_neg hf]
  obtain ⟨i,_,h2,e⟩:=bz.1 (cS.1 h)
  have:i=k:=by omega
  rw [← this];exact h2
def kE (r a:Big) (ns:List Int) (l:Nat):Bool:=!fH ((aF r a ns).take r.edges.toNat) l
def iJ (r a:Big) (ns:List Int):List Int:=idxOf (kE r a ns) a.edges.toNat
def iB (r a:Big) (ns:List Int) (l:Int):Int:=if l<a.edges then di (iJ r a ns) l else (iJ r a ns).length+(l - a.edges)
def mR (a:Big) (ns:List Int):List Int:=idxOf (fun i=>!g9 a ns i) a.nodes.length
def mI (a:Big) (ns:List Int) (i:Nat):Bool:=g9 a ns i && !fH ns i
def bC (a:Big) (ns:List Int):List Int:=idxOf (mI a ns) a.nodes.length
def dM (a:Big) (ns:List Int) (p:Int):Int:=if 0≤p then di (mR a ns) p else p
def FB (a:Big) (ns:List Int) (l:Nat):Bool:=(bC a ns).any fun k=>fH (eA a k).links l
def aq (a:Big) (ns:List Int):List Int:=idxOf (FB a ns) (ap a)
end Go.Proofs.YtclpbhoekmecjaaGreatDoor
