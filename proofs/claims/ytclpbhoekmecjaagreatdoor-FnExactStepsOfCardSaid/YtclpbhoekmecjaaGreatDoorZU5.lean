/-
  Proved facts that the law leans on.
-/
import Derived.Test.YtclpbhoekmecjaaGreatDoorZU3
import Derived.Shelf.Strings.Trim
import Derived.Shelf.Small.Utf8
import Derived.Shelf.Small.Bits
import Derived.Shelf.Small.Strs
import Derived.Shelf.Small.Wraps
import Derived.Shelf.Strconv.Itoa0
import Derived.Shelf.Strings.Search1
import Derived.Shelf.Strings.Runes
import Derived.Shelf.Strings.AsciiSet
import Derived.Shelf.Bits.Mul64
import Derived.Shelf.Unicode.DecodeSlow
import Derived.Shelf.Slices.Turned
import Derived.Shelf.Slices.Equal
import Derived.Shelf.Slices.Empties2
import Derived.Test.YtclpbhoekmecjaaGreatDoorProg
import Derived.Test.YtclpbhoekmecjaaGreatDoorRows
import Derived.WalkSpells
import Derived.WalkLawsBesides
import Derived.Deep.DeepMust
import Derived.Lib.SliceRun
import Derived.Shelf.Strings.SlTrimAscii
import Derived.BigQuiet
import Derived.Deep.RegionWith
import Derived.Deep.DrawnRows
import Derived.Deep.RegionHeld3
namespace Go.Proofs
open Go.Shelf
def Tryz.lays160_ren : Go.Shelf.Ren := ⟨fun | 160 => 237 | 232 => 268 | 231 => 267 | 227 => 269 | 234 => 271 | 233 => 270 | 236 => 273 | 235 => 272 | 228 => 304 | 271 => 307 | 151 => 306 | 197 => 305 | 120 => 327 | 152 => 326 | 260 => 325 | 137 => 333 | 119 => 334 | 224 => 335 | 225 => 336 | 217 => 338 | 266 => 339 | n => n, fun | 9 => 9 | 4 => 4 | 3 => 3 | 5 => 5 | 117 => 258 | 116 => 257 | 0 => 0 | 124 => 261 | 21 => 21 | 105 => 284 | 46 => 216 | 119 => 305 | 139 => 308 | 138 => 307 | n => n, fun | 3 => 0 | 4 => 1 | n => n⟩
theorem Tryz.lays160 : Go.Proofs.Lays.n160 Tryz.prog Tryz.lays160_ren := {
  mixed := by kernel_rfl
  f119 := Tryz.func334.trans (congrArg some (by kernel_rfl))
  f120 := Tryz.func327.trans (congrArg some (by kernel_rfl))
  f137 := Tryz.func333.trans (congrArg some (by kernel_rfl))
  f151 := Tryz.func306.trans (congrArg some (by kernel_rfl))
  f152 := Tryz.func326.trans (congrArg some (by kernel_rfl))
  f160 := Tryz.func237.trans (congrArg some (by kernel_rfl))
  f197 := Tryz.func305.trans (congrArg some (by kernel_rfl))
  f217 := Tryz.func338.trans (congrArg some (by kernel_rfl))
  f224 := Tryz.func335.trans (congrArg some (by kernel_rfl))
  f225 := Tryz.func336.trans (congrArg some (by kernel_rfl))
  f227 := Tryz.func269.trans (congrArg some (by kernel_rfl))
  f228 := Tryz.func304.trans (congrArg some (by kernel_rfl))
  f231 := Tryz.func267.trans (congrArg some (by kernel_rfl))
  f232 := Tryz.func268.trans (congrArg some (by kernel_rfl))
  f233 := Tryz.func270.trans (congrArg some (by kernel_rfl))
  f234 := Tryz.func271.trans (congrArg some (by kernel_rfl))
  f235 := Tryz.func272.trans (congrArg some (by kernel_rfl))
  f236 := Tryz.func273.trans (congrArg some (by kernel_rfl))
  f260 := Tryz.func325.trans (congrArg some (by kernel_rfl))
  f266 := Tryz.func339.trans (congrArg some (by kernel_rfl))
  f271 := Tryz.func307.trans (congrArg some (by kernel_rfl))
  t0 := Tryz.underlying0
  a0 := Tryz.isAgg0
  z0 := Tryz.sizeOf0
  v0 := Tryz.zeroValue0
  t3 := Tryz.underlying3
  a3 := Tryz.isAgg3
  z3 := Tryz.sizeOf3
  v3 := Tryz.zeroValue3
  t4 := Tryz.underlying4
  a4 := Tryz.isAgg4
  z4 := Tryz.sizeOf4
  v4 := Tryz.zeroValue4
  t5 := Tryz.underlying5
  a5 := Tryz.isAgg5
  z5 := Tryz.sizeOf5
  v5 := Tryz.zeroValue5
  t9 := Tryz.underlying9
  a9 := Tryz.isAgg9
  z9 := Tryz.sizeOf9
  v9 := Tryz.zeroValue9
  t21 := Tryz.underlying21
  a21 := Tryz.isAgg21
  z21 := Tryz.sizeOf21
  v21 := Tryz.zeroValue21
  t46 := Tryz.underlying216
  a46 := Tryz.isAgg216
  z46 := Tryz.sizeOf216
  v46 := Tryz.zeroValue216
  t105 := Tryz.underlying284
  a105 := Tryz.isAgg284
  z105 := Tryz.sizeOf284
  v105 := Tryz.zeroValue284
  t116 := Tryz.underlying257
  a116 := Tryz.isAgg257
  z116 := Tryz.sizeOf257
  t117 := Tryz.underlying258
  a117 := Tryz.isAgg258
  z117 := Tryz.sizeOf258
  v117 := Tryz.zeroValue258
  t119 := Tryz.underlying305
  a119 := Tryz.isAgg305
  z119 := Tryz.sizeOf305
  t124 := Tryz.underlying261
  a124 := Tryz.isAgg261
  z124 := Tryz.sizeOf261
  v124 := Tryz.zeroValue261
  t138 := Tryz.underlying307
  a138 := Tryz.isAgg307
  z138 := Tryz.sizeOf307
  v138 := Tryz.zeroValue307
  t139 := Tryz.underlying308
  a139 := Tryz.isAgg308
  z139 := Tryz.sizeOf308
  v139 := Tryz.zeroValue308
  g3 := by kernel_rfl
  g4 := by kernel_rfl }
def Tryz.lays212_ren : Go.Shelf.Ren := ⟨fun | 212 => 214 | 263 => 239 | 264 => 240 | n => n, fun | 46 => 216 | 51 => 230 | 146 => 231 | 53 => 233 | 148 => 234 | n => n, fun | n => n⟩
theorem Tryz.lays212 : Go.Proofs.Lays.n212 Tryz.prog Tryz.lays212_ren := {
  mixed := by kernel_rfl
  f212 := Tryz.func214.trans (congrArg some (by kernel_rfl))
  f263 := Tryz.func239.trans (congrArg some (by kernel_rfl))
  f264 := Tryz.func240.trans (congrArg some (by kernel_rfl))
  t46 := Tryz.underlying216
  a46 := Tryz.isAgg216
  z46 := Tryz.sizeOf216
  v46 := Tryz.zeroValue216
  t51 := Tryz.underlying230
  a51 := Tryz.isAgg230
  z51 := Tryz.sizeOf230
  v51 := Tryz.zeroValue230
  t53 := Tryz.underlying233
  a53 := Tryz.isAgg233
  z53 := Tryz.sizeOf233
  v53 := Tryz.zeroValue233
  t146 := Tryz.underlying231
  a146 := Tryz.isAgg231
  z146 := Tryz.sizeOf231
  v146 := Tryz.zeroValue231
  t148 := Tryz.underlying234
  a148 := Tryz.isAgg234
  z148 := Tryz.sizeOf234
  v148 := Tryz.zeroValue234 }
open Go.RowKit Go.Lib in
theorem Tryz.bits_Mul (x y : Nat) (hx : x < 18446744073709551616) (hy : y < 18446744073709551616) (w : World) :
    Calls Tryz.prog 214 #[.int .u64 x, .int .u64 y] w fun e w' => e = .returned (.tuple #[.int .u64 ((x * y / 18446744073709551616 : Nat) : Int), .int .u64 ((x * y % 18446744073709551616 : Nat) : Int)]) ∧ w' = w := Any.bits_Mul Tryz.lays212 x y hx hy w
def Tryz.lays110_ren : Go.Shelf.Ren := ⟨fun | 110 => 172 | 109 => 218 | n => n, fun | 31 => 26 | 9 => 9 | 4 => 4 | 3 => 3 | 0 => 0 | n => n, fun | n => n⟩
theorem Tryz.lays110 : Go.Proofs.Lays.n110 Tryz.prog Tryz.lays110_ren := {
  mixed := by kernel_rfl
  f109 := Tryz.func218.trans (congrArg some (by kernel_rfl))
  f110 := Tryz.func172.trans (congrArg some (by kernel_rfl))
  t0 := Tryz.underlying0
  a0 := Tryz.isAgg0
  z0 := Tryz.sizeOf0
  v0 := Tryz.zeroValue0
  t3 := Tryz.underlying3
  a3 := Tryz.isAgg3
  z3 := Tryz.sizeOf3
  v3 := Tryz.zeroValue3
  t4 := Tryz.underlying4
  a4 := Tryz.isAgg4
  z4 := Tryz.sizeOf4
  v4 := Tryz.zeroValue4
  t9 := Tryz.underlying9
  a9 := Tryz.isAgg9
  z9 := Tryz.sizeOf9
  v9 := Tryz.zeroValue9
  t31 := Tryz.underlying26
  a31 := Tryz.isAgg26
  z31 := Tryz.sizeOf26
  v31 := Tryz.zeroValue26 }
open Go.Lib in
theorem Tryz.slices_Contains_string (b off n c : Nat) (zs : List ByteArray) (x : ByteArray) (w : World) (hz : n ≤ zs.length) (hbig : n ≤ 9223372036854775807) (hc : ∀ j, j < zs.length → w.cell? ⟨b, off + j, none⟩ = some (.string (zs.getD j ByteArray.empty))) :
    Calls Tryz.prog 172 #[.slice (some ⟨b, off, none⟩) n c, .string x] w fun e w' => e = .returned (.bool (Lib.containsS (zs.take n) x)) ∧ w' = w := Any.slices_Contains_string Tryz.lays110 b off n c zs x w hz hbig hc
open Go.Lib in
theorem Tryz.slices_Contains_string_empty (a : Option Addr) (c : Nat) (x : ByteArray) (w : World) :
    Calls Tryz.prog 172 #[.slice a 0 c, .string x] w fun e w' => e = .returned (.bool false) ∧ w' = w := Any.slices_Contains_string_empty Tryz.lays110 a c x w
end Go.Proofs
namespace Go.Proofs.YtclpbhoekmecjaaGreatDoor
open Go.RowKit
set_option linter.unusedVariables false
set_option linter.unusedSimpArgs false
set_option maxHeartbeats 400000 in
theorem aP (n a b:Int) (w:World) :
 Calls Tryz.prog 58 #[.int .i64 n,.int .i64 a,.int .i64 b] w fun e w'=>e=.returned (.bool (inR n a b))∧w=w':=by
 by_cases h:a≤n
 ·go_enter Tryz.func58,Tryz.ntmps58
  go_wp2
  go_ret
  exact ⟨by simp [inR,h],rfl⟩
 ·go_enter Tryz.func58,Tryz.ntmps58
  go_wp2
  go_ret
  exact ⟨by simp [inR];omega,rfl⟩
set_option maxHeartbeats 400000 in
theorem ii (n a b:Int) (w:World) :
 Calls Tryz.prog 86 #[.int .i64 n,.int .i64 a,.int .i64 b] w fun e w'=>e=.returned (.bool (inR n a b))∧w=w':=by
 by_cases h:a≤n
 ·go_enter Tryz.func86,Tryz.ntmps86
  go_wp2
  go_ret
  exact ⟨by simp [inR,h],rfl⟩
 ·go_enter Tryz.func86,Tryz.ntmps86
  go_wp2
  go_ret
  exact ⟨by simp [inR];omega,rfl⟩
end Go.Proofs.YtclpbhoekmecjaaGreatDoor
namespace Go.Proofs.YtclpbhoekmecjaaGreatDoor
open Go.RowKit
set_option linter.unusedVariables false
set_option linter.unusedSimpArgs false
theorem eM {α:Type} (p:α→Bool) (xs:List α) (i:Nat) (h:i<xs.length):(xs.take (i+1)).any p=((xs.take i).any p || p xs[i]):=by
 rw [List.take_succ_eq_append_getElem h,List.any_append,List.any_cons,List.any_nil,Bool.or_false]
theorem qt {α:Type} (p:α→Bool) (xs:List α) (i:Nat) (h:i<xs.length) (hp:p xs[i]=true):xs.any p=true:=List.any_eq_true.2 ⟨_,List.getElem_mem h,hp⟩
set_option maxHeartbeats 1600000 in
theorem iB (lo hi:Nat) (p:Int→Bool) (gf:FuncId) (lb:Array Value) (v:Value) (xs:List Int) (w:World) (h:SlV 1 cS lo hi w v xs) (eg:∀args w,(callFunc gf args).run Tryz.prog w=.ok (.enter gf args) w)
 (hf:∀(i:Nat) (h:i<xs.length) (cs:List Value) (W:World),Ext w W→cS lo hi W cs xs[i]→Calls Tryz.prog gf (#[.int .i64 xs[i]]++lb) W fun e W'=>e=.returned (.bool (p xs[i]))∧Ext W W') :
 Calls Tryz.prog 154 #[v,.func (.func gf) #[] lb] w fun e w'=>∃r:Int,e=.returned (.int .i64 r)∧decide (0≤r)=xs.any p∧Ext w w':=by
 obtain ⟨a,k,rfl,g1,g2,g3,g4⟩:=h
 unfold maxLen at g2
 go_enter Tryz.func154,Tryz.ntmps154
 go_wp2
 go_loopw [5,8] (fun _ c wr=>∃i:Nat,c=.int .i64 i∧i≤xs.length∧(xs.take i).any p=false∧Ext w wr) (fun _ c _=>xs.length - (intOf c).toNat)
 case atStart=>exact ⟨0,rfl,Nat.zero_le _,rfl,xw⟩
 case round=>
  obtain ⟨i,rfl,hi',hno,hx⟩:=hrel
  by_cases hlt:i<xs.length
  ·rcases g4 with g4|⟨b,o,rfl,gb1,gb2,g4⟩
   ·subst g4;simp at hlt
   ·obtain ⟨cs,hl,hP,hc⟩:=g4 i hlt
    have HP:=cS.keeps _ _ _ _ _ _ (dq.ext hx) hP
    have HF:=hf i hlt cs wr hx HP
    obtain ⟨rfl,e1⟩:=hP
    have q0:=hx.keep (hc 0 _ rfl)
    rw [Nat.mul_one,Nat.add_zero] at q0
    clear g4 hc hf
    have hsucc:=eM p xs i hlt
    have hany:=qt p xs i hlt
    generalize hpv:p xs[i]=pv at HF hsucc hany
    cases pv
    ·go_wp2_with (refine HF.mono ?_;rintro e y ⟨rfl,hb⟩)
     go_roundw
     case rel=>exact ⟨i+1,rfl,by omega,by rw [hsucc,hno];rfl,xw⟩
     ·simp only [intOf];omega
    ·have hA:=Lib.hid (hany rfl)
     clear hany hsucc
     go_wp2_with (refine HF.mono ?_;rintro e y ⟨rfl,hb⟩)
     go_ret
     exact ⟨_,rfl,by rw [hA.out];simp,xw⟩
  ·go_wp2
   go_ret
   rw [List.take_of_length_le (by omega)] at hno
   exact ⟨_,rfl,by rw [hno];rfl,xw⟩
theorem bI (lo hi:Nat) (p:Int→Bool) (gf:FuncId) (lb:Array Value) (v:Value) (xs:List Int) (w:World) (h:SlV 1 cS lo hi w v xs) (eg:∀args w,(callFunc gf args).run Tryz.prog w=.ok (.enter gf args) w)
 (hf:∀(i:Nat) (h:i<xs.length) (cs:List Value) (W:World),Ext w W→cS lo hi W cs xs[i]→Calls Tryz.prog gf (#[.int .i64 xs[i]]++lb) W fun e W'=>e=.returned (.bool (p xs[i]))∧Ext W W') :
 Calls Tryz.prog 108 #[v,.func (.func gf) #[] lb] w fun e w'=>e=.returned (.bool (xs.any p))∧Ext w w':=by
 have H:=iB lo hi p gf lb v xs w h eg hf
 clear hf
 generalize xs.any p=r0 at H ⊢
 go_enter Tryz.func108,Tryz.ntmps108
 go_wp2_with (go_at_call 154;refine H.mono ?_;rintro e y ⟨r,rfl,hr,hb⟩)
 all_goals go_ret
 all_goals exact ⟨ap (by simp),xw⟩
set_option maxHeartbeats 1600000 in
theorem dF (lo hi:Nat) (p:Ctl→Bool) (gf:FuncId) (lb:Array Value) (v:Value) (xs:List Ctl) (w:World) (h:SlV 3 iD lo hi w v xs) (eg:∀args w,(callFunc gf args).run Tryz.prog w=.ok (.enter gf args) w)
 (hf:∀(i:Nat) (h:i<xs.length) (cs:List Value) (W:World),Ext w W→iD lo hi W cs xs[i]→Calls Tryz.prog gf (#[.agg cs.toArray]++lb) W fun e W'=>e=.returned (.bool (p xs[i]))∧Ext W W') :
 Calls Tryz.prog 238 #[v,.func (.func gf) #[] lb] w fun e w'=>∃r:Int,e=.returned (.int .i64 r)∧decide (0≤r)=xs.any p∧Ext w w':=by
 obtain ⟨a,k,rfl,g1,g2,g3,g4⟩:=h
 unfold maxLen at g2
 go_enter Tryz.func238,Tryz.ntmps238
 go_wp2
 go_loopw [5,8] (fun _ c wr=>∃i:Nat,c=.int .i64 i∧i≤xs.length∧(xs.take i).any p=false∧Ext w wr) (fun _ c _=>xs.length - (intOf c).toNat)
 case atStart=>exact ⟨0,rfl,Nat.zero_le _,rfl,xw⟩
 case round=>
  obtain ⟨i,rfl,hi',hno,hx⟩:=hrel
  by_cases hlt:i<xs.length
  ·rcases g4 with g4|⟨b,o,rfl,gb1,gb2,g4⟩
   ·subst g4;simp at hlt
   ·obtain ⟨cs,hl,hP,hc⟩:=g4 i hlt
    have HP:=iD.keeps _ _ _ _ _ _ (dq.ext hx) hP
    have HF:=hf i hlt cs wr hx HP
    obtain ⟨rfl,e1,e2,e3⟩:=hP
    have q0:=hx.keep (hc 0 _ rfl)
    have q1:=hx.keep (hc 1 _ rfl)
    have q2:=hx.keep (hc 2 _ rfl)
    rw [Nat.add_zero] at q0
    clear g4 hc hf
    have hsucc:=eM p xs i hlt
    have hany:=qt p xs i hlt
    generalize hpv:p xs[i]=pv at HF hsucc hany
    cases pv
    ·go_wp2_with (refine HF.mono ?_;rintro e y ⟨rfl,hb⟩)
     go_roundw
     case rel=>exact ⟨i+1,rfl,by omega,by rw [hsucc,hno];rfl,xw⟩
     ·simp only [intOf];omega
    ·have hA:=Lib.hid (hany rfl)
     clear hany hsucc
     go_wp2_with (refine HF.mono ?_;rintro e y ⟨rfl,hb⟩)
     go_ret
     exact ⟨_,rfl,by rw [hA.out];simp,xw⟩
  ·go_wp2
   go_ret
   rw [List.take_of_length_le (by omega)] at hno
   exact ⟨_,rfl,by rw [hno];rfl,xw⟩
theorem dj (lo hi:Nat) (p:Ctl→Bool) (gf:FuncId) (lb:Array Value) (v:Value) (xs:List Ctl) (w:World) (h:SlV 3 iD lo hi w v xs) (eg:∀args w,(callFunc gf args).run Tryz.prog w=.ok (.enter gf args) w)
 (hf:∀(i:Nat) (h:i<xs.length) (cs:List Value) (W:World),Ext w W→iD lo hi W cs xs[i]→Calls Tryz.prog gf (#[.agg cs.toArray]++lb) W fun e W'=>e=.returned (.bool (p xs[i]))∧Ext W W') :
 Calls Tryz.prog 211 #[v,.func (.func gf) #[] lb] w fun e w'=>e=.returned (.bool (xs.any p))∧Ext w w':=by
 have H:=dF lo hi p gf lb v xs w h eg hf
 clear hf
 generalize xs.any p=r0 at H ⊢
 go_enter Tryz.func211,Tryz.ntmps211
 go_wp2_with (go_at_call 238;refine H.mono ?_;rintro e y ⟨r,rfl,hr,hb⟩)
 all_goals go_ret
 all_goals exact ⟨ap (by simp),xw⟩
set_option maxHeartbeats 1600000 in
theorem eI (lo hi:Nat) (p:Wr→Bool) (gf:FuncId) (lb:Array Value) (v:Value) (xs:List Wr) (w:World) (h:SlV 2 WrP lo hi w v xs) (eg:∀args w,(callFunc gf args).run Tryz.prog w=.ok (.enter gf args) w)
 (hf:∀(i:Nat) (h:i<xs.length) (cs:List Value) (W:World),Ext w W→WrP lo hi W cs xs[i]→Calls Tryz.prog gf (#[.agg cs.toArray]++lb) W fun e W'=>e=.returned (.bool (p xs[i]))∧Ext W W') :
 Calls Tryz.prog 213 #[v,.func (.func gf) #[] lb] w fun e w'=>∃r:Int,e=.returned (.int .i64 r)∧decide (0≤r)=xs.any p∧Ext w w':=by
 obtain ⟨a,k,rfl,g1,g2,g3,g4⟩:=h
 unfold maxLen at g2
 go_enter Tryz.func213,Tryz.ntmps213
 go_wp2
 go_loopw [5,8] (fun _ c wr=>∃i:Nat,c=.int .i64 i∧i≤xs.length∧(xs.take i).any p=false∧Ext w wr) (fun _ c _=>xs.length - (intOf c).toNat)
 case atStart=>exact ⟨0,rfl,Nat.zero_le _,rfl,xw⟩
 case round=>
  obtain ⟨i,rfl,hi',hno,hx⟩:=hrel
  by_cases hlt:i<xs.length
  ·rcases g4 with g4|⟨b,o,rfl,gb1,gb2,g4⟩
   ·subst g4;simp at hlt
   ·obtain ⟨cs,hl,hP,hc⟩:=g4 i hlt
    have HP:=WrP.keeps _ _ _ _ _ _ (dq.ext hx) hP
    have HF:=hf i hlt cs wr hx HP
    obtain ⟨rfl,e1,e2⟩:=hP
    have q0:=hx.keep (hc 0 _ rfl)
    have q1:=hx.keep (hc 1 _ rfl)
    rw [Nat.add_zero] at q0
    clear g4 hc hf
    have hsucc:=eM p xs i hlt
    have hany:=qt p xs i hlt
    generalize hpv:p xs[i]=pv at HF hsucc hany
    cases pv
    ·go_wp2_with (refine HF.mono ?_;rintro e y ⟨rfl,hb⟩)
     go_roundw
     case rel=>exact ⟨i+1,rfl,by omega,by rw [hsucc,hno];rfl,xw⟩
     ·simp only [intOf];omega
    ·have hA:=Lib.hid (hany rfl)
     clear hany hsucc
     go_wp2_with (refine HF.mono ?_;rintro e y ⟨rfl,hb⟩)
     go_ret
     exact ⟨_,rfl,by rw [hA.out];simp,xw⟩
  ·go_wp2
   go_ret
   rw [List.take_of_length_le (by omega)] at hno
   exact ⟨_,rfl,by rw [hno];rfl,xw⟩
theorem dW (lo hi:Nat) (p:Wr→Bool) (gf:FuncId) (lb:Array Value) (v:Value) (xs:List Wr) (w:World) (h:SlV 2 WrP lo hi w v xs) (eg:∀args w,(callFunc gf args).run Tryz.prog w=.ok (.enter gf args) w)
 (hf:∀(i:Nat) (h:i<xs.length) (cs:List Value) (W:World),Ext w W→WrP lo hi W cs xs[i]→Calls Tryz.prog gf (#[.agg cs.toArray]++lb) W fun e W'=>e=.returned (.bool (p xs[i]))∧Ext W W') :
 Calls Tryz.prog 151 #[v,.func (.func gf) #[] lb] w fun e w'=>e=.returned (.bool (xs.any p))∧Ext w w':=by
 have H:=eI lo hi p gf lb v xs w h eg hf
 clear hf
 generalize xs.any p=r0 at H ⊢
 go_enter Tryz.func151,Tryz.ntmps151
 go_wp2_with (go_at_call 213;refine H.mono ?_;rintro e y ⟨r,rfl,hr,hb⟩)
 all_goals go_ret
 all_goals exact ⟨ap (by simp),xw⟩
set_option maxHeartbeats 1600000 in
theorem eL (lo hi:Nat) (p:Rul→Bool) (gf:FuncId) (lb:Array Value) (v:Value) (xs:List Rul) (w:World) (h:SlV 13 uo lo hi w v xs) (eg:∀args w,(callFunc gf args).run Tryz.prog w=.ok (.enter gf args) w)
 (hf:∀(i:Nat) (h:i<xs.length) (cs:List Value) (W:World),Ext w W→uo lo hi W cs xs[i]→Calls Tryz.prog gf (#[.agg cs.toArray]++lb) W fun e W'=>e=.returned (.bool (p xs[i]))∧Ext W W') :
 Calls Tryz.prog 139 #[v,.func (.func gf) #[] lb] w fun e w'=>∃r:Int,e=.returned (.int .i64 r)∧decide (0≤r)=xs.any p∧Ext w w':=by
 obtain ⟨a,k,rfl,g1,g2,g3,g4⟩:=h
 unfold maxLen at g2
 go_enter Tryz.func139,Tryz.ntmps139
 go_wp2
 go_loopw [5,8] (fun _ c wr=>∃i:Nat,c=.int .i64 i∧i≤xs.length∧(xs.take i).any p=false∧Ext w wr) (fun _ c _=>xs.length - (intOf c).toNat)
 case atStart=>exact ⟨0,rfl,Nat.zero_le _,rfl,xw⟩
 case round=>
  obtain ⟨i,rfl,hi',hno,hx⟩:=hrel
  by_cases hlt:i<xs.length
  ·rcases g4 with g4|⟨b,o,rfl,gb1,gb2,g4⟩
   ·subst g4;simp at hlt
   ·obtain ⟨cs,hl,hP,hc⟩:=g4 i hlt
    have HP:=uo.keeps _ _ _ _ _ _ (dq.ext hx) hP
    have HF:=hf i hlt cs wr hx HP
    obtain ⟨c1,c2,v,rfl,⟨v1,v2,v4,v5,rfl,_⟩,⟨y1,y2,y4,y5,rfl,_⟩,eC⟩:=hP
    have q0:=hx.keep (hc 0 _ rfl)
    have q1:=hx.keep (hc 1 _ rfl)
    have q2:=hx.keep (hc 2 _ rfl)
    have q3:=hx.keep (hc 3 _ rfl)
    have q4:=hx.keep (hc 4 _ rfl)
    have q5:=hx.keep (hc 5 _ rfl)
    have q6:=hx.keep (hc 6 _ rfl)
    have q7:=hx.keep (hc 7 _ rfl)
    have q8:=hx.keep (hc 8 _ rfl)
    have q9:=hx.keep (hc 9 _ rfl)
    have q10:=hx.keep (hc 10 _ rfl)
    have q11:=hx.keep (hc 11 _ rfl)
    have q12:=hx.keep (hc 12 _ rfl)
    rw [Nat.add_zero] at q0
    clear g4 hc hf
    have hsucc:=eM p xs i hlt
    have hany:=qt p xs i hlt
    generalize hpv:p xs[i]=pv at HF hsucc hany
    cases pv
    ·go_wp2_with (refine HF.mono ?_;rintro e y ⟨rfl,hb⟩)
     go_roundw
     case rel=>exact ⟨i+1,rfl,by omega,by rw [hsucc,hno];rfl,xw⟩
     ·simp only [intOf];omega
    ·have hA:=Lib.hid (hany rfl)
     clear hany hsucc
     go_wp2_with (refine HF.mono ?_;rintro e y ⟨rfl,hb⟩)
     go_ret
     exact ⟨_,rfl,by rw [hA.out];simp,xw⟩
  ·go_wp2
   go_ret
   rw [List.take_of_length_le (by omega)] at hno
   exact ⟨_,rfl,by rw [hno];rfl,xw⟩
theorem dZ (lo hi:Nat) (p:Rul→Bool) (gf:FuncId) (lb:Array Value) (v:Value) (xs:List Rul) (w:World) (h:SlV 13 uo lo hi w v xs) (eg:∀args w,(callFunc gf args).run Tryz.prog w=.ok (.enter gf args) w)
 (hf:∀(i:Nat) (h:i<xs.length) (cs:List Value) (W:World),Ext w W→uo lo hi W cs xs[i]→Calls Tryz.prog gf (#[.agg cs.toArray]++lb) W fun e W'=>e=.returned (.bool (p xs[i]))∧Ext W W') :
 Calls Tryz.prog 98 #[v,.func (.func gf) #[] lb] w fun e w'=>e=.returned (.bool (xs.any p))∧Ext w w':=by
 have H:=eL lo hi p gf lb v xs w h eg hf
 clear hf
 generalize xs.any p=r0 at H ⊢
 go_enter Tryz.func98,Tryz.ntmps98
 go_wp2_with (go_at_call 139;refine H.mono ?_;rintro e y ⟨r,rfl,hr,hb⟩)
 all_goals go_ret
 all_goals exact ⟨ap (by simp),xw⟩
end Go.Proofs.YtclpbhoekmecjaaGreatDoor
namespace Go.Proofs.YtclpbhoekmecjaaGreatDoor
open Go.RowKit
set_option linter.unusedVariables false
set_option linter.unusedSimpArgs false
def wG (c:UInt8):Bool:=inR (c.toNat:Int) 97 122
def dE (s:ByteArray):Bool:=inR (s.size:Int) 1 4 && s.data.toList.all wG
def yZ:List UInt8:=[97,98,99,100,101,102,103,104,105,106,107,108,109,110,111,112,113,114,115,116,117,118,119,120,121,122]
theorem E6:∀n:Fin 256,yZ.contains (UInt8.ofNat n.val)=wG (UInt8.ofNat n.val):=by decide +kernel
theorem Ft (c:UInt8):yZ.contains c=wG c:=by
 have h:=E6 ⟨c.toNat,c.toNat_lt⟩
 simpa using h
theorem mq (p:UInt8→Bool):∀l:List UInt8,l.dropWhile p = []↔l.all p=true:=by
 intro l
 induction l with
 | nil=>simp
 | cons x l ih=>
  rw [List.dropWhile_cons,List.all_cons]
  cases hx:p x
  ·simp
  ·simp only [if_true,Bool.true_and]
   exact ih
theorem qA (p:UInt8→Bool):∀l:List UInt8,(l.dropWhile p).all p=true→l.all p=true:=by
 intro l
 induction l with
 | nil=>intro h;rfl
 | cons x l ih=>
  rw [List.dropWhile_cons]
  cases hx:p x
  ·simp [hx]
  ·simp only [if_true,List.all_cons,hx,Bool.true_and]
   exact ih
theorem B6 (l:List UInt8):(Lib.trimS l yZ = [])↔l.all wG=true:=by
 have e:(fun c=>yZ.contains c)=wG:=funext Ft
 unfold Lib.trimS Lib.trimLeftS Lib.trimRightS
 show List.dropWhile (fun c=>yZ.contains c) ((List.dropWhile (fun c=>yZ.contains c) l.reverse).reverse) = []↔_
 rw [e,mq,List.all_reverse]
 constructor
 ·intro h
  have:=qA wG _ h
  rwa [List.all_reverse] at this
 ·intro h
  have h2:List.dropWhile wG l.reverse = []:=(mq wG _).2 (by rw [List.all_reverse];exact h)
  rw [h2];rfl
theorem xX (s:ByteArray):(⟨(Lib.trimS s.data.toList yZ).toArray⟩:ByteArray).toList.isEmpty=s.data.toList.all wG:=by
 rw [Lib.toList_data]
 show (Lib.trimS s.data.toList yZ).toArray.toList.isEmpty=_
 rw [List.toList_toArray]
 rw [Bool.eq_iff_iff,List.isEmpty_iff]
 exact B6 _
attribute [local irreducible] inR
set_option maxRecDepth 100000 in
set_option maxHeartbeats 800000 in
theorem eH (s:ByteArray) (w:World) (hs:s.size≤maxLen) :
 Calls Tryz.prog 210 #[.string s] w fun e w'=>e=.returned (.bool (dE s))∧Ext w w':=by
 have hs':=hs
 unfold maxLen at hs'
 have HT:=Any.strings_Trim_laid Tryz.lays160 (by kernel_rfl) s ⟨yZ.toArray⟩ w (by omega) (by decide) (ascii_of_all (by decide))
 change Calls Tryz.prog 237 _ _ _ at HT
 have HE:=Lib.hid (xX s)
 unfold dE
 cases h1:inR (s.size:Int) 1 4
 ·have H1:=Lib.hid h1
  clear h1
  go_enter Tryz.func210,Tryz.ntmps210
  go_wp2_with (go_at_call 58;refine (aP _ _ _ _).mono ?_;rintro e w' ⟨rfl,rfl⟩;rw [H1.out])
  go_ret
  exact ⟨rfl,xw⟩
 ·have H1:=Lib.hid h1
  clear h1
  have HE2:Hid ((⟨(Lib.trimS s.data.toList yZ).toArray⟩:ByteArray).toList.isEmpty=s.data.toList.all wG):=HE
  generalize hT:(⟨(Lib.trimS s.data.toList yZ).toArray⟩:ByteArray)=T at HE2
  have HT2:Calls Tryz.prog 237 #[.string s,.string ⟨yZ.toArray⟩] w fun e w'=>e=.returned (.string T)∧Ext w w':=HT.mono fun e w' ⟨h,k⟩=>⟨by rw [h,← hT],k⟩
  clear HT HE hT
  go_enter Tryz.func210,Tryz.ntmps210
  go_wp2_with (first|(go_at_call 58;refine (aP _ _ _ _).mono ?_;rintro e w' ⟨rfl,rfl⟩;rw [H1.out])|(go_at_call 237;refine HT2.mono ?_;rintro e y ⟨rfl,hb⟩))
  go_ret
  exact ⟨ap (by first|exact HE2.out|simpa using HE2.out),xw⟩
set_option maxHeartbeats 800000 in
theorem mg (s:ByteArray) (w:World) (hs:s.size≤maxLen) :
 Calls Tryz.prog 179 #[.string s] w fun e w'=>e=.returned (.bool (dE s))∧Ext w w':=by
 unfold maxLen at hs
 have hlo:∀c:UInt8,wG c=(decide (97≤(c.toNat:Int)) && decide ((c.toNat:Int)≤122)):=fun c=>by unfold wG inR;rfl
 go_enter Tryz.func179,Tryz.ntmps179
 go_wp2
 go_loopw [3] (fun c wr=>∃k:Nat,k≤s.size∧c=.int .i64 k∧(s.data.toList.take k).all wG=true∧Ext w wr) (fun c _=>s.size - (intOf c).toNat)
 case atStart=>exact ⟨0,Nat.zero_le _,rfl,by simp,xw⟩
 case round=>
  obtain ⟨k,hk,rfl,hp,hx⟩:=hrel
  have HP:=Lib.hid hp
  clear hp
  by_cases hlt:k<s.size
  ·have hb:=E4 s k hlt
   have hsn:=Lib.hid (za s k hlt)
   have hat:=Lib.hid (Hm s wG k hlt)
   have hl:=Lib.hid (hlo s[k])
   clear hlo
   by_cases h1:(s[k].toNat:Int)<97
   ·go_wp2
    go_ret
    exact ⟨ap (by unfold dE;rw [hat.out (by rw [hl.out];simp;omega),Bool.and_false]),xw⟩
   ·by_cases h2:(122:Int)<(s[k].toNat:Int)
    ·go_wp2
     go_ret
     exact ⟨ap (by unfold dE;rw [hat.out (by rw [hl.out];simp;omega),Bool.and_false]),xw⟩
    ·go_wp2
     go_roundw
     case rel=>exact ⟨k+1,by omega,rfl,by rw [hsn.out,List.all_append,HP.out,List.all_cons,hl.out];simp;omega,xw⟩
     ·simp only [intOf];omega
  ·have hta:=Lib.hid (DB s k hlt)
   go_wp2_with (go_at_call 86;refine (ii _ _ _ _).mono ?_;rintro e w' ⟨rfl,rfl⟩)
   go_ret
   exact ⟨ap (by unfold dE;rw [← hta.out,HP.out,Bool.and_true]),xw⟩
end Go.Proofs.YtclpbhoekmecjaaGreatDoor
namespace Go.Proofs.YtclpbhoekmecjaaGreatDoor
open Go.RowKit
set_option linter.unusedVariables false
set_option linter.unusedSimpArgs false
attribute [local irreducible] inR dE
def ml (a b:ByteArray):Bool:=a.toList == b.toList
def GZ (c:Ctl):Bool:=dE c.name && (inR c.ports 0 3 && inR c.kind 0 2)
def wD (l:List Ctl) (i:Nat) (c:Ctl):Bool:=!(l.take i).any (fun d=>ml d.name c.name)
def sN (l:List Ctl) (i:Nat):Bool:=match l[i]? with|none=>true|some c=>GZ c && wD l i c
def lr (l:List Ctl):Bool:=inR (l.length:Int) 1 6 && (List.range l.length).all (sN l)
theorem bW (f:Nat→Bool) (i:Nat):(List.range (i+1)).all f=((List.range i).all f && f i):=by
 rw [List.range_succ,List.all_append];simp
theorem bw (f:Nat→Bool) (n i:Nat) (h:i<n) (hf:f i=false):(List.range n).all f=false:=by
 rw [List.all_eq_false]
 exact ⟨i,List.mem_range.2 h,by simp [hf]⟩
theorem qX (l:List Ctl) (i:Nat) (h:i<l.length):sN l i=(GZ l[i] && wD l i l[i]):=by
 unfold sN;rw [List.getElem?_eq_getElem h]
theorem wZ (l:List Ctl) (i:Nat) (h:i<l.length) (hb:sN l i=false):lr l=false:=by
 unfold lr;rw [bw _ _ i h hb,Bool.and_false]
theorem SlV.take {α:Type} {P:Lie α} {size lo hi:Nat} {w:World} {a:Option Addr} {n k:Nat} {xs:List α} (h:SlV size P lo hi w (.slice a n k) xs) (i:Nat) (hi':i≤xs.length):SlV size P lo hi w (.slice a i k) (xs.take i):=by
 obtain ⟨a',k',e,g1,g2,g3,g4⟩:=h
 simp only [Value.slice.injEq] at e
 obtain ⟨rfl,rfl,rfl⟩:=e
 have hl:(xs.take i).length=i:=by rw [List.length_take];omega
 refine ⟨a,k,by rw [hl],by omega,g2,g3,?_⟩
 rcases g4 with g4|⟨b,o,rfl,h1,h2,g4⟩
 ·left;rw [g4];simp
 ·refine .inr ⟨b,o,rfl,h1,h2,fun j hj=>?_⟩
  obtain ⟨cs,c1,c2,c3⟩:=g4 j (by omega)
  exact ⟨cs,c1,by rw [List.getElem_take];exact c2,c3⟩
theorem kX (lo hi B:Nat) (cs:List Value) (d:Ctl) (nm:ByteArray) (W:World) (hP:iD lo hi W cs d) (hc:W.cell? ⟨B,0,none⟩=some (.string nm)) :
 Calls Tryz.prog 212 #[.agg cs.toArray,.pointer (some ⟨B,0,none⟩)] W fun e W'=>e=.returned (.bool (ml d.name nm))∧Ext W W':=by
 obtain ⟨rfl,e1,e2,e3⟩:=hP
 have hB:=World.block_lt_of_cell? W ⟨B,0,none⟩ hc
 have hne:¬B=W.heap.size:=by simp at hB;omega
 unfold ml
 go_enter Tryz.func212,Tryz.ntmps212
 go_wp2
 go_ret
 exact ⟨rfl,xw⟩
set_option maxRecDepth 100000 in
set_option maxHeartbeats 1600000 in
theorem mb (lo hi:Nat) (v:Value) (l:List Ctl) (w:World) (h:og lo hi w v l) :
 Calls Tryz.prog 144 #[v] w fun e w'=>e=.returned (.bool (lr l))∧Ext w w':=by
 have hV:=h
 obtain ⟨a,k,rfl,g1,g2,g3,g4⟩:=h
 unfold maxLen at g2
 cases h1:inR (l.length:Int) 1 6
 ·have H1:=Lib.hid h1
  clear h1
  go_enter Tryz.func144,Tryz.ntmps144
  go_wp2_with (go_at_call 58;refine (aP _ _ _ _).mono ?_;rintro e w' ⟨rfl,rfl⟩;rw [H1.out])
  go_ret
  exact ⟨ap (by unfold lr;rw [H1.out];rfl),xw⟩
 ·have H1:=Lib.hid h1
  clear h1
  go_enter Tryz.func144,Tryz.ntmps144
  go_wp2_with (go_at_call 58;refine (aP _ _ _ _).mono ?_;rintro e w' ⟨rfl,rfl⟩;rw [H1.out])
  go_loopw [11] (fun c wr=>∃i:Nat,c=.int .i64 i∧i≤l.length∧(List.range i).all (sN l)=true∧Ext w wr) (fun c _=>l.length - (intOf c).toNat)
  case atStart=>exact ⟨0,rfl,Nat.zero_le _,rfl,xw⟩
  case round=>
   obtain ⟨i,rfl,hi',hok,hx⟩:=hrel
   have HOK:=Lib.hid hok
   clear hok
   by_cases hlt:i<l.length
   ·rcases g4 with g4|⟨b,o,rfl,gb1,gb2,g4⟩
    ·subst g4;simp at hlt
    ·obtain ⟨cs,hl,hP,hc⟩:=g4 i hlt
     have hbad:=wZ l i hlt
     have hat:=qX l i hlt
     have hsucc:=bW (sN l) i
     have HV:=hV.keeps iD.keeps (dq.ext hx)
     have HT:=HV.take i (by omega)
     obtain ⟨rfl,e1,e2,e3⟩:=hP
     have q0:=hx.keep (hc 0 _ rfl)
     have q1:=hx.keep (hc 1 _ rfl)
     have q2:=hx.keep (hc 2 _ rfl)
     rw [Nat.add_zero] at q0
     clear g4 hc hV
     have hcb:GZ l[i]=(dE l[i].name && (inR l[i].ports 0 3 && inR l[i].kind 0 2)):=rfl
     generalize hn:dE l[i].name=n1 at hcb
     generalize hp2:inR l[i].ports 0 3=n2 at hcb
     generalize hp3:inR l[i].kind 0 2=n3 at hcb
     have hfr:wD l i l[i] = !((l.take i).any (fun d=>ml d.name l[i].name)):=rfl
     generalize hp4:(l.take i).any (fun d=>ml d.name l[i].name)=n4 at hfr
     have HA:=Lib.hid hat
     have HC:=Lib.hid hcb
     have HF:=Lib.hid hfr
     have HS:=Lib.hid hsucc
     have H2:=Lib.hid hp2
     have H3:=Lib.hid hp3
     have H4:=Lib.hid hp4
     clear hat hcb hfr hsucc hp2 hp3 hp4
     go_wp2_with fail
     refine (eH _ _ e1).mono ?_
     rintro e y ⟨rfl,hb⟩
     rw [hn]
     clear hn
     have p0:=hb.keep (p:=⟨wr.heap.size,0,none⟩) (v:=.string l[i].name) (by simp)
     have p1:=hb.keep (p:=⟨wr.heap.size,1,none⟩) (v:=.int .i64 l[i].ports) (by simp)
     have p2:=hb.keep (p:=⟨wr.heap.size,2,none⟩) (v:=.int .i64 l[i].kind) (by simp)
     have hy:Ext wr y:=xw
     have HT':=HT.keeps iD.keeps (dq.ext hy)
     have hbad':n1=false∨n2=false∨n3=false∨n4=true→lr l=false:=fun hh=>hbad (by rw [HA.out,HC.out,HF.out];rcases hh with rfl|rfl|rfl|rfl <;> simp)
     cases n1
     ·have HB:=Lib.hid (hbad' (.inl rfl))
      go_wp2
      go_ret
      exact ⟨ap HB.out.symm,xw⟩
     ·cases n2
      ·have HB:=Lib.hid (hbad' (.inr (.inl rfl)))
       go_wp2_with (go_at_call 58;refine (aP _ _ _ _).mono ?_;rintro e w' ⟨rfl,rfl⟩;rw [H2.out])
       go_ret
       exact ⟨ap HB.out.symm,xw⟩
      ·cases n3
       ·have HB:=Lib.hid (hbad' (.inr (.inr (.inl rfl))))
        go_wp2_with (go_at_call 58;refine (aP _ _ _ _).mono ?_;rintro e w' ⟨rfl,rfl⟩;first|rw [H2.out]|rw [H3.out])
        go_ret
        exact ⟨ap HB.out.symm,xw⟩
       ·have hHB:=Lib.hid (fun h4=>hbad' (.inr (.inr (.inr h4))))
        have eg:∀args w,(callFunc 212 args).run Tryz.prog w=.ok (.enter 212 args) w:=enters_of Tryz.func212 (by kernel_rfl) rfl
        have HCF:=dj lo hi (fun d=>ml d.name l[i].name) 212 #[.pointer (some ⟨wr.heap.size,0,none⟩)] _ _ y HT' eg (fun j hj cs W hW hPW=>kX lo hi wr.heap.size cs _ l[i].name W hPW (hW.keep p0))
        rw [H4.out] at HCF
        clear hbad hbad' eg
        cases n4
        ·go_wp2_with (first|(go_at_call 58;refine (aP _ _ _ _).mono ?_;rintro e w' ⟨rfl,rfl⟩;first|rw [H2.out]|rw [H3.out])|(go_at_call 211;refine HCF.mono ?_;rintro e y2 ⟨rfl,hb2⟩))
         go_roundw
         case rel=>exact ⟨i+1,rfl,by omega,by rw [HS.out,HOK.out,HA.out,HC.out,HF.out];rfl,xw⟩
         ·simp only [intOf];omega
        ·have HB:=Lib.hid (hHB.out rfl)
         go_wp2_with (first|(go_at_call 58;refine (aP _ _ _ _).mono ?_;rintro e w' ⟨rfl,rfl⟩;first|rw [H2.out]|rw [H3.out])|(go_at_call 211;refine HCF.mono ?_;rintro e y2 ⟨rfl,hb2⟩))
         go_ret
         exact ⟨ap HB.out.symm,xw⟩
   ·go_wp2
    go_ret
    have e:i=l.length:=by omega
    subst e
    exact ⟨ap (by unfold lr;rw [H1.out,HOK.out];rfl),xw⟩
set_option maxRecDepth 100000 in
set_option maxHeartbeats 1600000 in
theorem ui (lo hi:Nat) (v:Value) (l:List Ctl) (w:World) (h:og lo hi w v l) :
 Calls Tryz.prog 122 #[v] w fun e w'=>e=.returned (.bool (lr l))∧Ext w w':=by
 obtain ⟨a,k,rfl,g1,g2,g3,g4⟩:=h
 unfold maxLen at g2
 go_enter Tryz.func122,Tryz.ntmps122
 go_wp2
 go_loopw [3] (fun c wr=>∃i:Nat,c=.int .i64 i∧i≤l.length∧(List.range i).all (sN l)=true∧Ext w wr) (fun c _=>l.length - (intOf c).toNat)
 case atStart=>exact ⟨0,rfl,Nat.zero_le _,rfl,xw⟩
 case round=>
  obtain ⟨i,rfl,hi',hok,hx⟩:=hrel
  have HOK:=Lib.hid hok
  clear hok
  by_cases hlt:i<l.length
  ·rcases g4 with g4|⟨b,o,rfl,gb1,gb2,g4⟩
   ·subst g4;simp at hlt
   ·have hbad:=wZ l i hlt
    have hat:=qX l i hlt
    have hsucc:=bW (sN l) i
    obtain ⟨cs,hl,hP,hc⟩:=g4 i hlt
    obtain ⟨rfl,e1,e2,e3⟩:=hP
    have q0:=hx.keep (hc 0 _ rfl)
    have q1:=hx.keep (hc 1 _ rfl)
    have q2:=hx.keep (hc 2 _ rfl)
    rw [Nat.add_zero] at q0
    clear hc
    have hcb:GZ l[i]=(dE l[i].name && (inR l[i].ports 0 3 && inR l[i].kind 0 2)):=rfl
    generalize hn:dE l[i].name=n1 at hcb
    generalize hp2:inR l[i].ports 0 3=n2 at hcb
    generalize hp3:inR l[i].kind 0 2=n3 at hcb
    have hfr:wD l i l[i] = !((l.take i).any (fun d=>ml d.name l[i].name)):=rfl
    generalize hp4:(l.take i).any (fun d=>ml d.name l[i].name)=n4 at hfr
    have HA:=Lib.hid hat
    have HC:=Lib.hid hcb
    have HF:=Lib.hid hfr
    have HS:=Lib.hid hsucc
    have H2:=Lib.hid hp2
    have H3:=Lib.hid hp3
    have H4:=Lib.hid hp4
    clear hat hcb hfr hsucc hp2 hp3 hp4
    have hbad':n1=false∨n2=false∨n3=false∨n4=true→lr l=false:=fun hh=>hbad (by rw [HA.out,HC.out,HF.out];rcases hh with rfl|rfl|rfl|rfl <;> simp)
    go_wp2_with fail
    refine (mg _ _ e1).mono ?_
    rintro e y ⟨rfl,hb⟩
    rw [hn]
    clear hn
    replace q0:=hb.keep q0
    replace q1:=hb.keep q1
    replace q2:=hb.keep q2
    have hy:=hx.trans hb
    cases n1
    ·have HB:=Lib.hid (hbad' (.inl rfl))
     go_wp2
     go_ret
     exact ⟨ap HB.out.symm,xw⟩
    ·cases n2
     ·have HB:=Lib.hid (hbad' (.inr (.inl rfl)))
      go_wp2_with (go_at_call 86;refine (ii _ _ _ _).mono ?_;rintro e w' ⟨rfl,rfl⟩;rw [H2.out])
      go_ret
      exact ⟨ap HB.out.symm,xw⟩
     ·cases n3
      ·have HB:=Lib.hid (hbad' (.inr (.inr (.inl rfl))))
       go_wp2_with (go_at_call 86;refine (ii _ _ _ _).mono ?_;rintro e w' ⟨rfl,rfl⟩;first|rw [H2.out]|rw [H3.out])
       go_ret
       exact ⟨ap HB.out.symm,xw⟩
      ·have hHB:=Lib.hid (fun h4=>hbad' (.inr (.inr (.inr h4))))
       clear hbad hbad'
       go_wp2_with (go_at_call 86;refine (ii _ _ _ _).mono ?_;rintro e w' ⟨rfl,rfl⟩;first|rw [H2.out]|rw [H3.out])
       go_loopw [4] (fun c wz=>∃j:Nat,c=.int .i64 j∧j≤i∧(l.take j).any (fun d=>ml d.name l[i].name)=false∧Ext y wz) (fun c _=>i - (intOf c).toNat)
       case atStart=>exact ⟨0,rfl,Nat.zero_le _,rfl,Ext.refl _⟩
       case round=>
        obtain ⟨j,rfl,hj',hno,hxz⟩:=hrel
        have HNO:=Lib.hid hno
        clear hno
        by_cases hji:j<i
        ·obtain ⟨ds,hdl,hD,hd⟩:=g4 j (by omega)
         obtain ⟨rfl,d1,d2,d3⟩:=hD
         have r0:=hxz.keep (hy.keep (hd 0 _ rfl))
         rw [Nat.add_zero] at r0
         have s0:=hxz.keep q0
         have hats:=Lib.hid (eM (fun d:Ctl=>ml d.name l[i].name) l j (by omega))
         have hany:ml l[j].name l[i].name=true→n4=true:=fun hh=>by
          rw [← H4.out]
          refine qt _ _ j (by rw [List.length_take];omega) ?_
          rw [List.getElem_take];exact hh
         have HANY:=Lib.hid hany
         clear hany hd
         have hse:ml l[j].name l[i].name=(l[j].name.toList == l[i].name.toList):=rfl
         cases hst:(l[j].name.toList == l[i].name.toList)
         ·rw [hst] at hse
          have HSE:=Lib.hid hse
          clear hse
          go_wp2_with (go_quiet (fail))
          go_roundw
          case rel=>exact ⟨j+1,rfl,by omega,by rw [hats.out,HNO.out];exact HSE.out,xw⟩
          ·simp only [intOf];omega
         ·rw [hst] at hse
          have HB:=Lib.hid (hHB.out (HANY.out hse))
          clear hse
          go_wp2_with (go_quiet (fail))
          go_ret
          exact ⟨ap HB.out.symm,xw⟩
        ·have e:j=i:=by omega
         subst e
         have hn4:n4=false:=by rw [← H4.out];exact HNO.out
         subst hn4
         go_wp2
         go_roundw
         case rel=>exact ⟨j+1,rfl,by omega,by rw [HS.out,HOK.out,HA.out,HC.out,HF.out];rfl,xw⟩
         ·simp only [intOf];omega
  ·have e:i=l.length:=by omega
   subst e
   go_wp2_with (go_at_call 86;refine (ii _ _ _ _).mono ?_;rintro e w' ⟨rfl,rfl⟩)
   go_ret
   exact ⟨ap (by unfold lr;rw [HOK.out,Bool.and_true]),xw⟩
end Go.Proofs.YtclpbhoekmecjaaGreatDoor
namespace Go.Proofs.YtclpbhoekmecjaaGreatDoor
open Go.RowKit
set_option linter.unusedVariables false
set_option linter.unusedSimpArgs false
attribute [local irreducible] inR dE
end Go.Proofs.YtclpbhoekmecjaaGreatDoor
namespace Go.Proofs.YtclpbhoekmecjaaGreatDoor
open Go.RowKit
set_option linter.unusedVariables false
set_option linter.unusedSimpArgs false
attribute [local irreducible] inR dE lr
end Go.Proofs.YtclpbhoekmecjaaGreatDoor
namespace Go.Proofs.YtclpbhoekmecjaaGreatDoor
open Go.RowKit
set_option linter.unusedVariables false
set_option linter.unusedSimpArgs false
attribute [local irreducible] inR dE lr
theorem jG {α:Type} (p:α→Bool) (xs:List α) (i:Nat) (h:i<xs.length):(xs.take (i+1)).all p=((xs.take i).all p && p xs[i]):=by
 rw [List.take_succ_eq_append_getElem h,List.all_append,List.all_cons,List.all_nil,Bool.and_true]
theorem uG {α:Type} (p:α→Bool) (xs:List α) (i:Nat) (h:i<xs.length) (hp:p xs[i]=false):xs.all p=false:=by
 rw [List.all_eq_false];exact ⟨_,List.getElem_mem h,by simp [hp]⟩
end Go.Proofs.YtclpbhoekmecjaaGreatDoor
namespace Go.Proofs.YtclpbhoekmecjaaGreatDoor
open Go.RowKit
set_option linter.unusedVariables false
set_option linter.unusedSimpArgs false
attribute [local irreducible] inR dE lr
end Go.Proofs.YtclpbhoekmecjaaGreatDoor
namespace Go.Proofs.YtclpbhoekmecjaaGreatDoor
open Go.RowKit
set_option linter.unusedVariables false
set_option linter.unusedSimpArgs false
theorem bM (w:World) (cs:List Value) (T:TypeId):∃W0,w.alloc (.cells cs.toArray T)=W0∧dL W0 w.heap.size cs∧Ext w W0∧W0.heap.size=w.heap.size+1:=
 ⟨_,rfl,dL.new w T cs _ rfl,Ext.alloc (Ext.refl w) _,by simp⟩
theorem i5 {α:Type} (p:α→Bool) (l:List α):l.any (fun x=>!(p x)) = !(l.all p):=by
 induction l with
 | nil=>rfl
 | cons x l ih=>simp only [List.any_cons,List.all_cons,ih];cases p x <;> simp
theorem bO {n a b:Int} (h:inR n a b=true):a≤n∧n≤b:=by unfold inR at h;simpa using h
theorem Cw {l:List Ctl} (h:lr l=true):1≤l.length∧l.length≤6:=by
 unfold lr at h
 have:=bO (Bool.and_eq_true_iff.1 h).1
 omega
attribute [local irreducible] inR dE lr
end Go.Proofs.YtclpbhoekmecjaaGreatDoor
namespace Go.Proofs.YtclpbhoekmecjaaGreatDoor
open Go.RowKit
set_option linter.unusedVariables false
set_option linter.unusedSimpArgs false
theorem CB {w w':World} (h:w.grownBy w' none):Ext w w':=⟨h.os,h.tape,h.output,h.size,fun k hk=>h.block k hk (by simp)⟩
theorem ri:(Tryz.prog.info? 3).map (fun i=>(i.zero,i.size,i.bytes))=some (some (.int .i64 0),1,8):=by kernel_rfl
theorem uZ:(Tryz.prog.info? 9).map (fun i=>(i.zero,i.size,i.bytes))=some (some (.string ⟨#[]⟩),1,16):=by kernel_rfl
theorem B5:(Tryz.prog.info? 219).map (fun i=>(i.zero,i.size,i.bytes))=some (some (.agg #[.int .i64 0,.int .i64 0]),2,16):=by kernel_rfl
end Go.Proofs.YtclpbhoekmecjaaGreatDoor
namespace Go.Proofs.YtclpbhoekmecjaaGreatDoor
open Go.RowKit
set_option linter.unusedVariables false
set_option linter.unusedSimpArgs false
attribute [local irreducible] inR dE lr
end Go.Proofs.YtclpbhoekmecjaaGreatDoor
namespace Go.Proofs.YtclpbhoekmecjaaGreatDoor
open Go.RowKit
set_option linter.unusedVariables false
set_option linter.unusedSimpArgs false
def cZ (a b:ByteArray):Bool:=Op.bytesLess a.toList b.toList
theorem km:∀x y:List UInt8,(Op.bytesLess x y || (x == y)) = !(Op.bytesLess y x):=by
 intro x
 induction x with
 | nil=>intro y;cases y <;> simp [Op.bytesLess]
 | cons a x ih=>
  intro y
  cases y with
  | nil=>simp [Op.bytesLess]
  | cons b y=>
   simp only [Op.bytesLess]
   have hih:=ih y
   by_cases h1:a<b
   ·have h2:¬b<a:=by simp only [UInt8.lt_iff_toNat_lt] at *;omega
    have h3:¬b=a:=by intro h;subst h;exact h2 h1
    simp [h1,h2,h3]
   ·by_cases h2:b<a
    ·have h3:¬a=b:=by intro h;subst h;exact h1 h2
     simp [h1,h2,h3]
    ·have h3:a=b:=by
      simp only [UInt8.lt_iff_toNat_lt] at *
      exact UInt8.toNat_inj.1 (by omega)
     subst h3
     simp [h1]
     simpa using hih
theorem Ba (a b:ByteArray):(Op.bytesLess a.toList b.toList || (a.toList == b.toList)) = !(cZ b a):=km _ _
def Aw (l:List ByteArray) (i:Nat):Bool:=match l[i]? with|none=>true|some s=>dE s && (decide (i=0) || cZ (l.getD (i - 1) ⟨#[]⟩) s)
def dw (l:List ByteArray):Bool:=(List.range l.length).all (Aw l) && decide ((l.length:Int)≤16)
theorem qV (l:List ByteArray) (i:Nat) (h:i<l.length):Aw l i=(dE l[i] && (decide (i=0) || cZ (l.getD (i - 1) ⟨#[]⟩) l[i])):=by
 unfold Aw;rw [List.getElem?_eq_getElem h]
theorem qi (l:List ByteArray) (i:Nat) (h:i<l.length) (hb:Aw l i=false):dw l=false:=by
 unfold dw;rw [bw _ _ i h hb];rfl
attribute [local irreducible] inR dE cZ
set_option maxHeartbeats 1600000 in
theorem kr (lo hi:Nat) (v:Value) (l:List ByteArray) (w:World) (h:zY lo hi w v l) :
 Calls Tryz.prog 145 #[v] w fun e w'=>e=.returned (.bool (dw l))∧Ext w w':=by
 obtain ⟨a,k,rfl,g1,g2,g3,g4⟩:=h
 unfold maxLen at g2
 go_enter Tryz.func145,Tryz.ntmps145
 go_wp2
 go_loopw [7] (fun c wr=>∃i:Nat,c=.int .i64 i∧i≤l.length∧(List.range i).all (Aw l)=true∧Ext w wr) (fun c _=>l.length - (intOf c).toNat)
 case atStart=>exact ⟨0,rfl,Nat.zero_le _,rfl,xw⟩
 case round=>
  obtain ⟨i,rfl,hi',hok,hx⟩:=hrel
  have HOK:=Lib.hid hok
  clear hok
  by_cases hlt:i<l.length
  ·rcases g4 with g4|⟨b,o,rfl,gb1,gb2,g4⟩
   ·subst g4;simp at hlt
   obtain ⟨cs,hl,⟨rfl,e1⟩,hc⟩:=g4 i hlt
   have q0:=hx.keep (hc 0 _ rfl)
   rw [Nat.mul_one,Nat.add_zero] at q0
   clear hc
   have hbad:=qi l i hlt
   have HA:=Lib.hid (qV l i hlt)
   have HS:=Lib.hid (bW (Aw l) i)
   by_cases hn:i=0
   ·subst hn
    simp only [Nat.add_zero] at q0
    cases ha:dE l[0]
    have Ha:=Lib.hid ha;clear ha
    have HB:=Lib.hid (hbad (by rw [HA.out];simp [Ha.out]))
    clear hbad
    have isF:=trivial
    rotate_left
    have Ha:=Lib.hid ha;clear ha
    have HG:=Lib.hid (show Aw l 0=true by rw [HA.out];simp [Ha.out])
    clear hbad
    have isP:=trivial
    all_goals go_wp2_with (first|(go_at_call 210;(refine (eH _ _ e1).mono ?_);rintro e y ⟨rfl,hb⟩;rw [Ha.out]))
    all_goals first|(have:=isF;go_ret;exact ⟨ap HB.out.symm,xw⟩)|(have:=isP;go_roundw;(case rel=>exact ⟨1,rfl,by omega,by rw [HS.out,HOK.out,HG.out];rfl,xw⟩);· simp only [intOf];omega)
   ·obtain ⟨j,rfl⟩:∃j,i=j+1:=⟨i - 1,by omega⟩
    obtain ⟨ds,hdl,⟨rfl,d1⟩,hd⟩:=g4 j (by omega)
    have r0:=hx.keep (hd 0 _ rfl)
    rw [Nat.mul_one,Nat.add_zero] at r0
    have hg:l.getD j ⟨#[]⟩=l[j]:=by rw [List.getD_eq_getElem?_getD,List.getElem?_eq_getElem (by omega)];rfl
    have HG:=Lib.hid hg
    have HLE:=Lib.hid (Ba l[j+1] l[j])
    have jw:=IntWalk.i64_in (((j+1:Nat):Int) - 1) (by omega)
    have je:((j+1:Nat):Int) - 1=j:=by omega
    clear hd hg g4
    cases hle:cZ l[j] l[j+1]
    ·have HB:=Lib.hid (hbad (by rw [HA.out,show j+1 - 1=j by omega,HG.out,hle];simp))
     have hz:=HLE.out
     rw [hle] at hz
     have HZ:=Lib.hid hz
     clear hbad hle
     cases ha:dE l[j+1]
     ·have Ha:=Lib.hid ha
      clear ha hz
      go_wp2_with (go_at_call 210;refine (eH _ _ e1).mono ?_;rintro e y ⟨rfl,hb⟩;rw [Ha.out])
      go_ret
      exact ⟨ap HB.out.symm,xw⟩
     ·have Ha:=Lib.hid ha
      clear ha
      go_wp2_with (go_at_call 210;refine (eH _ _ e1).mono ?_;rintro e y ⟨rfl,hb⟩;rw [Ha.out];replace r0:=hb.keep r0)
      all_goals first
       | (go_ret;exact ⟨ap HB.out.symm,xw⟩)
       | (exfalso;have hh:=HZ.out;simp_all;done)
    ·have hz:=HLE.out
     rw [hle] at hz
     have HL:=Lib.hid hle
     have HZ:=Lib.hid hz
     clear hle
     cases ha:dE l[j+1]
     ·have HB:=Lib.hid (hbad (by rw [HA.out,ha];rfl))
      have Ha:=Lib.hid ha
      clear ha hbad hz
      go_wp2_with (go_at_call 210;refine (eH _ _ e1).mono ?_;rintro e y ⟨rfl,hb⟩;rw [Ha.out])
      go_ret
      exact ⟨ap HB.out.symm,xw⟩
     ·have HG2:=Lib.hid (show Aw l (j+1)=true by rw [HA.out,show j+1 - 1=j by omega,HG.out,ha,HL.out];simp)
      have Ha:=Lib.hid ha
      clear ha hbad
      go_wp2_with (go_at_call 210;refine (eH _ _ e1).mono ?_;rintro e y ⟨rfl,hb⟩;rw [Ha.out];replace r0:=hb.keep r0)
      all_goals first
       | (exfalso;have hh:=HZ.out;simp_all;done)
       | (go_roundw
          case rel=>exact ⟨j+1+1,rfl,by omega,by rw [HS.out,HOK.out,HG2.out];rfl,xw⟩
          case measure=>simp only [intOf];omega)
  ·have e:i=l.length:=by omega
   subst e
   have HL:=Lib.hid (show dw l=decide ((l.length:Int)≤16) by unfold dw;rw [HOK.out];rfl)
   go_wp2
   go_ret
   exact ⟨ap HL.out.symm,xw⟩
end Go.Proofs.YtclpbhoekmecjaaGreatDoor
namespace Go.Proofs.YtclpbhoekmecjaaGreatDoor
open Go.RowKit
set_option linter.unusedVariables false
set_option linter.unusedSimpArgs false
def se (sig:List Ctl) (k:Int):Ctl:=sig.getD k.toNat ⟨⟨#[]⟩,0,0⟩
def ew (b:Big) (k:Int):Nd:=b.nodes.getD k.toNat ⟨0,0,[]⟩
def du (sig:List Ctl) (b:Big) (p below:Int):Bool:=if p<0 then decide (-b.roots≤p) else decide (p<below) && !(decide ((se sig (ew b p).control).kind=2))
def dU (b:Big) (l:Int):Bool:=inR l 0 (b.edges+b.outer.length - 1)
def Be (sig:List Ctl) (b:Big) (n:Int):Prop:=∀i (h:i<b.nodes.length),(i:Int)<n→0≤b.nodes[i].control∧b.nodes[i].control<sig.length
theorem av (b:Big) (i:Nat) (h:i<b.nodes.length):ew b i=b.nodes[i]:=by
 unfold ew;rw [Int.toNat_natCast,List.getD_eq_getElem?_getD,List.getElem?_eq_getElem h];rfl
theorem jE (sig:List Ctl) (i:Nat) (h:i<sig.length):se sig i=sig[i]:=by
 unfold se;rw [Int.toNat_natCast,List.getD_eq_getElem?_getD,List.getElem?_eq_getElem h];rfl
theorem pW {sig:List Ctl} {b:Big} {p below:Int} (h:p<0):du sig b p below=decide (-b.roots≤p):=if_pos h
theorem uC {sig:List Ctl} {b:Big} {p below:Int} (h:p<0) (h2:I64 p):inR (-1 - p) 0 (b.roots - 1)=du sig b p below:=by
 rw [pW h];unfold inR;rw [Bool.eq_iff_iff];simp;omega
theorem xI {sig:List Ctl} {b:Big} {p below:Int} (h:¬p<0):du sig b p below=(decide (p<below) && !(decide ((se sig (ew b p).control).kind=2))):=if_neg h
theorem x9 (xs:List Wr) (i:Nat) (h:i<xs.length):(xs.take (i+1)).map Wr.name=(xs.take i).map Wr.name++[xs[i].name]:=by
 rw [List.take_succ_eq_append_getElem h,List.map_append];rfl
theorem BY {α β:Type} (f:α→β) (xs:List α) (i:Nat) (h:i≤xs.length):((xs.take i).map f).length=i:=by simp;omega
attribute [local irreducible] inR dE cZ
set_option maxRecDepth 100000 in
set_option maxHeartbeats 1600000 in
theorem iS (lo hi:Nat) (cs:List Value) (b:Big) (w:World) (h:dQ lo hi w cs b) (hlen:b.inner.length≤1048576) :
 Calls Tryz.prog 146 #[.agg cs.toArray] w fun e w'=>∃v,e=.returned v∧SlV 1 eG w.heap.size w'.heap.size w' v (b.inner.map Wr.name)∧Ext w w':=by
 obtain ⟨v1,v2,v4,v5,rfl,r1,r2,hN,hS,hO,hI⟩:=h
 obtain ⟨a5,k5,rfl,g1,g2,g3,g4⟩:=hI
 unfold maxLen at g2
 obtain ⟨i0,hi0,hz0,hz1,hz2⟩:=info_parts uZ
 obtain ⟨W0,hW0,hbx,hx0,hz⟩:=bM w [.int .i64 b.roots,v1,v2,.int .i64 b.edges,v4,.slice a5 b.inner.length k5] 40
 have p5:=(hbx 5 _ rfl).1
 have hrow0:gw 1 eG 9 W0.heap.size (W0.alloc (.cells #[] 9)) (.slice (some ⟨W0.heap.size,0,none⟩) 0 0) []:=gw.made (Nat.le_refl _)
 have hz':w.heap.size<W0.heap.size:=by omega
 clear hz
 go_enter Tryz.func146,Tryz.ntmps146
 go_wp2
 go_loopw [10,3] (fun c v wr=>∃i:Nat,c=.int .i64 i∧i≤b.inner.length∧gw 1 eG 9 W0.heap.size wr v ((b.inner.take i).map Wr.name)∧Ext W0 wr) (fun c _ _=>b.inner.length - (intOf c).toNat)
 case atStart=>exact ⟨0,rfl,Nat.zero_le _,by simpa using hrow0,xw⟩
 case round=>
  obtain ⟨i,rfl,hi',hrow,hx⟩:=hrel
  replace p5:=hx.keep p5
  have hX:Ext w wr:=xw
  by_cases hlt:i<b.inner.length
  ·rcases g4 with g4|⟨b',o,rfl,gb1,gb2,g4⟩
   ·rw [g4] at hlt;simp at hlt
   obtain ⟨cs,hl,⟨rfl,e1,e2⟩,hc⟩:=g4 i hlt
   have q0:=hX.keep (hc 0 _ rfl)
   have q1:=hX.keep (hc 1 _ rfl)
   rw [Nat.add_zero] at q0
   clear hc g4
   have HT:=Lib.hid (x9 b.inner i hlt)
   have HL:=Lib.hid (BY Wr.name b.inner i hi')
   have hsz:=Below.size hx
   go_wp2_with (at_builtin;refine mN eG.keeps rfl (.tmp 14) (.tmp 17) 26 rfl (W0.heap.size) 9 i0 _ 16 Tryz.underlying26 hi0 hz0 hz1 hz2 rfl (by decide) _ _ (by rfl) (hrow.ext eG.keeps xw) ⟨wr.heap.size+1,0,none⟩ 1 [.string b.inner[i].name] rfl rfl (iL (by simp)) (by simp [Value.oneCell']) (W0.heap.size) (W0.heap.size) (Nat.le_refl _) (by first|omega|(simp;omega)) (fun g hg=>.inr (hrow.block g hg).1) (b.inner[i].name) ⟨rfl,e1⟩ (by first|omega|(simp;omega)) (by decide) (by first|omega|(simp;omega)) ?_;intro v3 w3 row3 ext3)
   have hx3:=ext3 W0 xw (Nat.le_refl _)
   go_roundw
   case rel=>exact ⟨i+1,rfl,by omega,by rw [HT.out];exact row3,xw⟩
   ·simp only [intOf];omega
  ·have HT:=Lib.hid (show b.inner.take i=b.inner from List.take_of_length_le (by omega))
   go_wp2
   go_ret
   rw [HT.out] at hrow
   exact ⟨_,rfl,hrow.toSlV eG.widens (by omega),hX⟩
theorem gA (lo hi:Nat) (cs:List Value) (b:Big) (l:Int) (w:World) (h:dQ lo hi w cs b) (he:inR b.edges 0 8=true) (ho:b.outer.length≤1000) :
 Calls Tryz.prog 149 #[.agg cs.toArray,.int .i64 l] w fun e w'=>e=.returned (.bool (dU b l))∧Ext w w':=by
 obtain ⟨v1,v2,v4,v5,rfl,r1,r2,hN,hS,hO,hI⟩:=h
 obtain ⟨a4,k4,rfl,g1,g2,g3,g4⟩:=hO
 have he':=bO he
 unfold maxLen at g2
 clear he
 obtain ⟨W0,hW0,hbx,hx0,hz⟩:=bM w [.int .i64 b.roots,v1,v2,.int .i64 b.edges,.slice a4 b.outer.length k4,v5] 40
 have p3:=(hbx 3 _ rfl).1
 have p4:=(hbx 4 _ rfl).1
 clear hz g4 hbx
 go_enter Tryz.func149,Tryz.ntmps149
 go_wp2_with (go_at_call 58;refine (aP _ _ _ _).mono ?_;rintro e y ⟨rfl,rfl⟩)
 go_ret
 exact ⟨rfl,hx0⟩
set_option maxHeartbeats 800000 in
theorem bX (lo hi lo' hi':Nat) (v:Value) (sig:List Ctl) (cs:List Value) (b:Big) (p below:Int) (w:World) (hV:og lo hi w v sig) (h:dQ lo' hi' w cs b) (hp:I64 p) (hr:inR b.roots 0 4=true) (hb0:below≤b.nodes.length) (hc:Be sig b below) :
 Calls Tryz.prog 147 #[.agg cs.toArray,v,.int .i64 p,.int .i64 below] w fun e w'=>e=.returned (.bool (du sig b p below))∧Ext w w':=by
 obtain ⟨v1,v2,v4,v5,rfl,r1,r2,hN,hS,hO,hI⟩:=h
 obtain ⟨a1,k1,rfl,g1,g2,g3,g4⟩:=hN
 obtain ⟨a,k,rfl,m1,m2,m3,m4⟩:=hV
 have hr':=bO hr
 unfold maxLen at g2 m2
 clear hr
 obtain ⟨W0,hW0,hbx,hx0,hz⟩:=bM w [.int .i64 b.roots,.slice a1 b.nodes.length k1,v2,.int .i64 b.edges,v4,v5] 40
 have p0:=(hbx 0 _ rfl).1
 have p1:=(hbx 1 _ rfl).1
 clear hz hbx
 by_cases hn:p<0
 ·have HU:=Lib.hid (pW (sig:=sig) (b:=b) (below:=below) hn)
  go_enter Tryz.func147,Tryz.ntmps147
  go_wp2
  go_ret
  exact ⟨ap HU.out.symm,hx0⟩
 ·have HU:=Lib.hid (xI (sig:=sig) (b:=b) (below:=below) hn)
  by_cases hlt:p<below
  ·obtain ⟨n,rfl⟩:=Int.eq_ofNat_of_zero_le (show 0≤p by omega)
   have hnl:n<b.nodes.length:=by omega
   obtain ⟨c1,c2⟩:=hc n hnl hlt
   rcases g4 with g4|⟨b1,o1,rfl,gb1,gb2,g4⟩
   ·rw [g4] at hnl;simp at hnl
   obtain ⟨cs,hl,⟨nv,rfl,e1,e2,e3⟩,hcs⟩:=g4 n hnl
   have q0:=hx0.keep (hcs 0 _ rfl)
   rw [Nat.add_zero] at q0
   obtain ⟨m,hm⟩:=Int.eq_ofNat_of_zero_le c1
   have hml:m<sig.length:=by omega
   rcases m4 with m4|⟨b2,o2,rfl,mb1,mb2,m4⟩
   ·rw [m4] at hml;simp at hml
   obtain ⟨ds,dl,⟨rfl,d1,d2,d3⟩,hds⟩:=m4 m hml
   have s2:=hx0.keep (hds 2 _ rfl)
   have HK:=Lib.hid (show se sig (ew b (n:Int)).control=sig[m] by rw [av b n hnl,hm,jE sig m hml])
   rw [hm] at q0
   clear hm hcs hds g4 m4 c1 c2 hc
   have dd:decide ((n:Int)<below)=true:=decide_eq_true hlt
   go_enter Tryz.func147,Tryz.ntmps147
   go_wp2
   go_ret
   exact ⟨ap (by rw [HU.out,HK.out,dd];by_cases hh:sig[m].kind=2 <;> simp [hh]),hx0⟩
  ·have dd:decide (p<below)=false:=decide_eq_false hlt
   go_enter Tryz.func147,Tryz.ntmps147
   go_wp2
   go_ret
   exact ⟨ap (by rw [HU.out,dd];rfl),hx0⟩
theorem iJ (lo hi B:Nat) (cs:List Value) (b:Big) (l:Int) (w:World) (h:dQ lo hi w cs b) (he:inR b.edges 0 8=true) (ho:b.outer.length≤1000) (hbx:∀j u,cs[j]? = some u→w.cell? ⟨B,j,none⟩=some u) :
 Calls Tryz.prog 148 #[.int .i64 l,.pointer (some ⟨B,0,none⟩)] w fun e w'=>e=.returned (.bool (!(dU b l)))∧Ext w w':=by
 have hB:=h
 obtain ⟨v1,v2,v4,v5,rfl,r1,r2,hN,hS,hO,hI⟩:=h
 have p0:=hbx 0 _ rfl
 have p1:=hbx 1 _ rfl
 have p2:=hbx 2 _ rfl
 have p3:=hbx 3 _ rfl
 have p4:=hbx 4 _ rfl
 have p5:=hbx 5 _ rfl
 clear hbx
 go_enter Tryz.func148,Tryz.ntmps148
 go_wp2_with (go_at_call 149;refine (gA lo hi [.int .i64 b.roots,v1,v2,.int .i64 b.edges,v4,v5] b l _ hB he ho).mono ?_;rintro e y ⟨rfl,hb⟩)
 go_ret
 exact ⟨rfl,hb⟩
theorem mh (lo hi lo' hi' B B2:Nat) (v:Value) (sig:List Ctl) (cs:List Value) (b:Big) (p:Int) (w:World) (hV:og lo' hi' w v sig) (h:dQ lo hi w cs b) (hp:I64 p) (hr:inR b.roots 0 4=true) (hc:Be sig b b.nodes.length) (hbx:∀j u,cs[j]? = some u→w.cell? ⟨B,j,none⟩=some u) (hbs:w.cell? ⟨B2,0,none⟩=some v) :
 Calls Tryz.prog 150 #[.int .i64 p,.pointer (some ⟨B,0,none⟩),.pointer (some ⟨B2,0,none⟩)] w fun e w'=>e=.returned (.bool (!(du sig b p b.nodes.length)))∧Ext w w':=by
 have hB:=h
 have hV':=hV
 obtain ⟨a,k,rfl,m1,m2,m3,m4⟩:=hV
 obtain ⟨v1,v2,v4,v5,rfl,r1,r2,hN,hS,hO,hI⟩:=h
 obtain ⟨a1,k1,rfl,g1,g2,g3,g4⟩:=hN
 have p0:=hbx 0 _ rfl
 have p1:=hbx 1 _ rfl
 have p2:=hbx 2 _ rfl
 have p3:=hbx 3 _ rfl
 have p4:=hbx 4 _ rfl
 have p5:=hbx 5 _ rfl
 unfold maxLen at g2
 clear hbx g4 m4
 go_enter Tryz.func150,Tryz.ntmps150
 go_wp2_with (go_at_call 147;refine (bX lo' hi' lo hi _ sig [.int .i64 b.roots,.slice a1 b.nodes.length k1,v2,.int .i64 b.edges,v4,v5] b p _ _ hV' hB hp hr (by omega) hc).mono ?_;rintro e y ⟨rfl,hb⟩)
 go_ret
 exact ⟨rfl,hb⟩
theorem lY (lo hi B:Nat) (cs:List Value) (b:Big) (ds:List Value) (x:Wr) (w:World) (h:dQ lo hi w cs b) (he:inR b.edges 0 8=true) (ho:b.outer.length≤1000) (hbx:∀j u,cs[j]? = some u→w.cell? ⟨B,j,none⟩=some u) (hx:WrP lo hi w ds x) :
 Calls Tryz.prog 152 #[.agg ds.toArray,.pointer (some ⟨B,0,none⟩)] w fun e w'=>e=.returned (.bool (!(dU b x.link)))∧Ext w w':=by
 have hB:=h
 obtain ⟨v1,v2,v4,v5,rfl,r1,r2,hN,hS,hO,hI⟩:=h
 obtain ⟨rfl,e1,e2⟩:=hx
 obtain ⟨W0,hW0,hbx0,hx0,hz⟩:=bM w [.string x.name,.int .i64 x.link] 133
 have p0:=hx0.keep (hbx 0 _ rfl)
 have p1:=hx0.keep (hbx 1 _ rfl)
 have p2:=hx0.keep (hbx 2 _ rfl)
 have p3:=hx0.keep (hbx 3 _ rfl)
 have p4:=hx0.keep (hbx 4 _ rfl)
 have p5:=hx0.keep (hbx 5 _ rfl)
 have s1:=(hbx0 1 _ rfl).1
 replace hB:=dQ.keeps _ _ _ _ _ _ (dq.ext hx0) hB
 clear hbx hbx0 hz
 go_enter Tryz.func152,Tryz.ntmps152
 go_wp2_with (go_at_call 149;refine (gA lo hi [.int .i64 b.roots,v1,v2,.int .i64 b.edges,v4,v5] b x.link _ hB he ho).mono ?_;rintro e y ⟨rfl,hb⟩)
 go_ret
 exact ⟨rfl,hx0.trans hb⟩
end Go.Proofs.YtclpbhoekmecjaaGreatDoor
namespace Go.Proofs.YtclpbhoekmecjaaGreatDoor
open Go.RowKit
set_option linter.unusedVariables false
set_option linter.unusedSimpArgs false
def fW (sig:List Ctl) (b:Big) (i:Nat):Bool:=match b.nodes[i]? with
 | none=>true
 | some n=>inR n.control 0 ((sig.length:Int) - 1) && (du sig b n.parent i && (decide ((n.links.length:Int)=(se sig n.control).ports) && n.links.all (dU b)))
def jC (sig:List Ctl) (b:Big):Bool:=lr sig && (inR b.roots 0 4 && (decide (b.nodes.length≤8) && (decide (b.sites.length≤4) && (inR b.edges 0 8 && (dw b.outer && dw (b.inner.map Wr.name))))))
def fV (sig:List Ctl) (b:Big) (p:Int):Bool:=du sig b p b.nodes.length
def gO (b:Big) (x:Wr):Bool:=dU b x.link
def aF (sig:List Ctl) (b:Big):Bool:=jC sig b && ((List.range b.nodes.length).all (fW sig b) && (b.sites.all (fV sig b) && b.inner.all (gO b)))
theorem mE (sig:List Ctl) (b:Big) (i:Nat) (h:i<b.nodes.length):fW sig b i=(inR (b.nodes[i]).control 0 ((sig.length:Int) - 1) && (du sig b (b.nodes[i]).parent i && (decide (((b.nodes[i]).links.length:Int)=(se sig (b.nodes[i]).control).ports) && !((b.nodes[i]).links.any (fun l=>!(dU b l)))))):=by
 unfold fW;rw [List.getElem?_eq_getElem h,i5,Bool.not_not]
theorem nT {sig:List Ctl} {b:Big} {n:Nat} (h:(List.range n).all (fW sig b)=true):Be sig b n:=by
 intro i hi hn
 have:=List.all_eq_true.1 h i (List.mem_range.2 (by omega))
 rw [mE sig b i hi] at this
 have:=bO (Bool.and_eq_true_iff.1 this).1
 omega
theorem gj {l:List ByteArray} (h:dw l=true):l.length≤16:=by
 unfold dw at h
 have:=(Bool.and_eq_true_iff.1 h).2
 simp at this;omega
theorem fd {sig:List Ctl} {b:Big} (h:jC sig b=true):lr sig=true∧inR b.roots 0 4=true∧b.nodes.length≤8∧b.sites.length≤4∧inR b.edges 0 8=true∧dw b.outer=true∧dw (b.inner.map Wr.name)=true:=by
 unfold jC at h
 simp only [Bool.and_eq_true,decide_eq_true_eq] at h
 obtain ⟨a,b,c,d,e,f,g⟩:=h
 exact ⟨a,b,c,d,e,f,g⟩
theorem dV {sig:List Ctl} {b:Big} (h:aF sig b=true):jC sig b=true∧(List.range b.nodes.length).all (fW sig b)=true∧b.sites.all (fV sig b)=true∧b.inner.all (gO b)=true:=by
 unfold aF at h
 simp only [Bool.and_eq_true] at h
 exact h
theorem dN {sig:List Ctl} {b:Big} (h:jC sig b=false):aF sig b=false:=by unfold aF;rw [h];rfl
theorem oy {sig:List Ctl} {b:Big} (i:Nat) (hi:i<b.nodes.length) (h:fW sig b i=false):aF sig b=false:=by unfold aF;rw [bw _ _ i hi h];simp
theorem jr {x y:Bool} (h:x = !y):y = !x:=by cases x <;> cases y <;> simp_all
theorem De (sig:List Ctl) (b:Big):b.sites.any (fun p=>!(du sig b p b.nodes.length)) = !(b.sites.all (fV sig b)):=i5 (fV sig b) b.sites
theorem B3 (b:Big):b.inner.any (fun x=>!(dU b x.link)) = !(b.inner.all (gO b)):=i5 (gO b) b.inner
end Go.Proofs.YtclpbhoekmecjaaGreatDoor
