/-
  Proved facts that the law leans on.
-/
import Derived.Test.YtnobdioccfeokaaGreatDoorZE2
import Derived.Shelf.Strings.Trim
import Derived.Shelf.Small.Utf8
import Derived.Shelf.Small.Strs
import Derived.Shelf.Small.Wraps
import Derived.Shelf.Strconv.Itoa0
import Derived.Shelf.Strings.Search1
import Derived.Shelf.Strings.Runes
import Derived.Shelf.Strings.AsciiSet
import Derived.Shelf.Bits.Mul64
import Derived.Shelf.Unicode.DecodeSlow
import Derived.Shelf.Slices.Turned
import Derived.Shelf.Slices.Equal
import Derived.Shelf.Slices.Empties2
import Derived.Test.YtnobdioccfeokaaGreatDoorProg
import Derived.Test.YtnobdioccfeokaaGreatDoorRows
import Derived.WalkSpells
import Derived.WalkLawsBesides
import Derived.Deep.DeepMust
import Derived.Lib.SliceRun
import Derived.Shelf.Strings.SlTrimAscii
import Derived.BigQuiet
import Derived.Deep.RegionWith
import Derived.Deep.DrawnRows
import Derived.Deep.RegionHeld3
namespace Go.Proofs
open Go.Shelf
def Tryz.lays160_ren : Go.Shelf.Ren := ⟨fun | 160 => 115 | 232 => 174 | 231 => 173 | 227 => 175 | 234 => 177 | 233 => 176 | 236 => 179 | 235 => 178 | 228 => 233 | 271 => 236 | 151 => 235 | 197 => 234 | 120 => 265 | 152 => 264 | 260 => 263 | 137 => 295 | 119 => 296 | 224 => 297 | 225 => 298 | 217 => 326 | 266 => 342 | n => n, fun | 9 => 9 | 4 => 4 | 3 => 3 | 5 => 5 | 117 => 209 | 116 => 208 | 0 => 0 | 124 => 212 | 21 => 21 | 105 => 238 | 46 => 248 | 119 => 280 | 139 => 283 | 138 => 282 | n => n, fun | 3 => 0 | 4 => 1 | n => n⟩
theorem Tryz.lays160 : Go.Proofs.Lays.n160 Tryz.prog Tryz.lays160_ren := {
  mixed := by kernel_rfl
  f119 := Tryz.func296.trans (congrArg some (by kernel_rfl))
  f120 := Tryz.func265.trans (congrArg some (by kernel_rfl))
  f137 := Tryz.func295.trans (congrArg some (by kernel_rfl))
  f151 := Tryz.func235.trans (congrArg some (by kernel_rfl))
  f152 := Tryz.func264.trans (congrArg some (by kernel_rfl))
  f160 := Tryz.func115.trans (congrArg some (by kernel_rfl))
  f197 := Tryz.func234.trans (congrArg some (by kernel_rfl))
  f217 := Tryz.func326.trans (congrArg some (by kernel_rfl))
  f224 := Tryz.func297.trans (congrArg some (by kernel_rfl))
  f225 := Tryz.func298.trans (congrArg some (by kernel_rfl))
  f227 := Tryz.func175.trans (congrArg some (by kernel_rfl))
  f228 := Tryz.func233.trans (congrArg some (by kernel_rfl))
  f231 := Tryz.func173.trans (congrArg some (by kernel_rfl))
  f232 := Tryz.func174.trans (congrArg some (by kernel_rfl))
  f233 := Tryz.func176.trans (congrArg some (by kernel_rfl))
  f234 := Tryz.func177.trans (congrArg some (by kernel_rfl))
  f235 := Tryz.func178.trans (congrArg some (by kernel_rfl))
  f236 := Tryz.func179.trans (congrArg some (by kernel_rfl))
  f260 := Tryz.func263.trans (congrArg some (by kernel_rfl))
  f266 := Tryz.func342.trans (congrArg some (by kernel_rfl))
  f271 := Tryz.func236.trans (congrArg some (by kernel_rfl))
  t0 := Tryz.underlying0
  a0 := Tryz.isAgg0
  z0 := Tryz.sizeOf0
  v0 := Tryz.zeroValue0
  t3 := Tryz.underlying3
  a3 := Tryz.isAgg3
  z3 := Tryz.sizeOf3
  v3 := Tryz.zeroValue3
  t4 := Tryz.underlying4
  a4 := Tryz.isAgg4
  z4 := Tryz.sizeOf4
  v4 := Tryz.zeroValue4
  t5 := Tryz.underlying5
  a5 := Tryz.isAgg5
  z5 := Tryz.sizeOf5
  v5 := Tryz.zeroValue5
  t9 := Tryz.underlying9
  a9 := Tryz.isAgg9
  z9 := Tryz.sizeOf9
  v9 := Tryz.zeroValue9
  t21 := Tryz.underlying21
  a21 := Tryz.isAgg21
  z21 := Tryz.sizeOf21
  v21 := Tryz.zeroValue21
  t46 := Tryz.underlying248
  a46 := Tryz.isAgg248
  z46 := Tryz.sizeOf248
  v46 := Tryz.zeroValue248
  t105 := Tryz.underlying238
  a105 := Tryz.isAgg238
  z105 := Tryz.sizeOf238
  v105 := Tryz.zeroValue238
  t116 := Tryz.underlying208
  a116 := Tryz.isAgg208
  z116 := Tryz.sizeOf208
  t117 := Tryz.underlying209
  a117 := Tryz.isAgg209
  z117 := Tryz.sizeOf209
  v117 := Tryz.zeroValue209
  t119 := Tryz.underlying280
  a119 := Tryz.isAgg280
  z119 := Tryz.sizeOf280
  t124 := Tryz.underlying212
  a124 := Tryz.isAgg212
  z124 := Tryz.sizeOf212
  v124 := Tryz.zeroValue212
  t138 := Tryz.underlying282
  a138 := Tryz.isAgg282
  z138 := Tryz.sizeOf282
  v138 := Tryz.zeroValue282
  t139 := Tryz.underlying283
  a139 := Tryz.isAgg283
  z139 := Tryz.sizeOf283
  v139 := Tryz.zeroValue283
  g3 := by kernel_rfl
  g4 := by kernel_rfl }
def Tryz.lays122_ren : Go.Shelf.Ren := ⟨fun | 122 => 262 | 215 => 294 | n => n, fun | 3 => 3 | 4 => 4 | n => n, fun | n => n⟩
theorem Tryz.lays122 : Go.Proofs.Lays.n122 Tryz.prog Tryz.lays122_ren := {
  mixed := by kernel_rfl
  f122 := Tryz.func262.trans (congrArg some (by kernel_rfl))
  f215 := Tryz.func294.trans (congrArg some (by kernel_rfl))
  t3 := Tryz.underlying3
  a3 := Tryz.isAgg3
  z3 := Tryz.sizeOf3
  v3 := Tryz.zeroValue3
  t4 := Tryz.underlying4
  a4 := Tryz.isAgg4
  z4 := Tryz.sizeOf4
  v4 := Tryz.zeroValue4 }
open Go.RowKit in
theorem Tryz.cmp_Compare_int (x y : Int) (w : World) :
    Calls Tryz.prog 262 #[.int .i64 x, .int .i64 y] w fun e w' => e = .returned (.int .i64 (Lib.compareInt x y)) ∧ w' = w := Any.cmp_Compare_int Tryz.lays122 x y w
def Tryz.lays212_ren : Go.Shelf.Ren := ⟨fun | 212 => 268 | 263 => 308 | 264 => 309 | n => n, fun | 46 => 248 | 51 => 267 | 146 => 292 | 53 => 269 | 148 => 294 | n => n, fun | n => n⟩
theorem Tryz.lays212 : Go.Proofs.Lays.n212 Tryz.prog Tryz.lays212_ren := {
  mixed := by kernel_rfl
  f212 := Tryz.func268.trans (congrArg some (by kernel_rfl))
  f263 := Tryz.func308.trans (congrArg some (by kernel_rfl))
  f264 := Tryz.func309.trans (congrArg some (by kernel_rfl))
  t46 := Tryz.underlying248
  a46 := Tryz.isAgg248
  z46 := Tryz.sizeOf248
  v46 := Tryz.zeroValue248
  t51 := Tryz.underlying267
  a51 := Tryz.isAgg267
  z51 := Tryz.sizeOf267
  v51 := Tryz.zeroValue267
  t53 := Tryz.underlying269
  a53 := Tryz.isAgg269
  z53 := Tryz.sizeOf269
  v53 := Tryz.zeroValue269
  t146 := Tryz.underlying292
  a146 := Tryz.isAgg292
  z146 := Tryz.sizeOf292
  v146 := Tryz.zeroValue292
  t148 := Tryz.underlying294
  a148 := Tryz.isAgg294
  z148 := Tryz.sizeOf294
  v148 := Tryz.zeroValue294 }
open Go.RowKit Go.Lib in
theorem Tryz.bits_Mul (x y : Nat) (hx : x < 18446744073709551616) (hy : y < 18446744073709551616) (w : World) :
    Calls Tryz.prog 268 #[.int .u64 x, .int .u64 y] w fun e w' => e = .returned (.tuple #[.int .u64 ((x * y / 18446744073709551616 : Nat) : Int), .int .u64 ((x * y % 18446744073709551616 : Nat) : Int)]) ∧ w' = w := Any.bits_Mul Tryz.lays212 x y hx hy w
def Tryz.lays110_ren : Go.Shelf.Ren := ⟨fun | 110 => 64 | 109 => 116 | n => n, fun | 31 => 29 | 9 => 9 | 4 => 4 | 3 => 3 | 0 => 0 | n => n, fun | n => n⟩
theorem Tryz.lays110 : Go.Proofs.Lays.n110 Tryz.prog Tryz.lays110_ren := {
  mixed := by kernel_rfl
  f109 := Tryz.func116.trans (congrArg some (by kernel_rfl))
  f110 := Tryz.func64.trans (congrArg some (by kernel_rfl))
  t0 := Tryz.underlying0
  a0 := Tryz.isAgg0
  z0 := Tryz.sizeOf0
  v0 := Tryz.zeroValue0
  t3 := Tryz.underlying3
  a3 := Tryz.isAgg3
  z3 := Tryz.sizeOf3
  v3 := Tryz.zeroValue3
  t4 := Tryz.underlying4
  a4 := Tryz.isAgg4
  z4 := Tryz.sizeOf4
  v4 := Tryz.zeroValue4
  t9 := Tryz.underlying9
  a9 := Tryz.isAgg9
  z9 := Tryz.sizeOf9
  v9 := Tryz.zeroValue9
  t31 := Tryz.underlying29
  a31 := Tryz.isAgg29
  z31 := Tryz.sizeOf29
  v31 := Tryz.zeroValue29 }
open Go.Lib in
theorem Tryz.slices_Contains_string (b off n c : Nat) (zs : List ByteArray) (x : ByteArray) (w : World) (hz : n ≤ zs.length) (hbig : n ≤ 9223372036854775807) (hc : ∀ j, j < zs.length → w.cell? ⟨b, off + j, none⟩ = some (.string (zs.getD j ByteArray.empty))) :
    Calls Tryz.prog 64 #[.slice (some ⟨b, off, none⟩) n c, .string x] w fun e w' => e = .returned (.bool (Lib.containsS (zs.take n) x)) ∧ w' = w := Any.slices_Contains_string Tryz.lays110 b off n c zs x w hz hbig hc
open Go.Lib in
theorem Tryz.slices_Contains_string_empty (a : Option Addr) (c : Nat) (x : ByteArray) (w : World) :
    Calls Tryz.prog 64 #[.slice a 0 c, .string x] w fun e w' => e = .returned (.bool false) ∧ w' = w := Any.slices_Contains_string_empty Tryz.lays110 a c x w
end Go.Proofs
namespace Go.Proofs.YtnobdioccfeokaaGreatDoor
open Go.RowKit
set_option linter.unusedVariables false
set_option linter.unusedSimpArgs false
set_option maxHeartbeats 400000 in
theorem cV (n a b:Int) (w:World) :
 Calls Tryz.prog 62 #[.int .i64 n,.int .i64 a,.int .i64 b] w fun e w'=>e=.returned (.bool (inR n a b))∧w=w':=by
 by_cases h:a≤n
 ·go_enter Tryz.func62,Tryz.ntmps62
  go_wp2
  go_ret
  exact ⟨by simp [inR,h],rfl⟩
 ·go_enter Tryz.func62,Tryz.ntmps62
  go_wp2
  go_ret
  exact ⟨by simp [inR];omega,rfl⟩
set_option maxHeartbeats 400000 in
theorem gR (n a b:Int) (w:World) :
 Calls Tryz.prog 49 #[.int .i64 n,.int .i64 a,.int .i64 b] w fun e w'=>e=.returned (.bool (inR n a b))∧w=w':=by
 by_cases h:a≤n
 ·go_enter Tryz.func49,Tryz.ntmps49
  go_wp2
  go_ret
  exact ⟨by simp [inR,h],rfl⟩
 ·go_enter Tryz.func49,Tryz.ntmps49
  go_wp2
  go_ret
  exact ⟨by simp [inR];omega,rfl⟩
end Go.Proofs.YtnobdioccfeokaaGreatDoor
namespace Go.Proofs.YtnobdioccfeokaaGreatDoor
open Go.RowKit
set_option linter.unusedVariables false
set_option linter.unusedSimpArgs false
theorem ja {α:Type} (p:α→Bool) (xs:List α) (i:Nat) (h:i<xs.length):(xs.take (i+1)).any p=((xs.take i).any p || p xs[i]):=by
 rw [List.take_succ_eq_append_getElem h,List.any_append,List.any_cons,List.any_nil,Bool.or_false]
theorem Au {α:Type} (p:α→Bool) (xs:List α) (i:Nat) (h:i<xs.length) (hp:p xs[i]=true):xs.any p=true:=List.any_eq_true.2 ⟨_,List.getElem_mem h,hp⟩
set_option maxHeartbeats 1600000 in
theorem dt (lo hi:Nat) (p:Ctl→Bool) (gf:FuncId) (lb:Array Value) (v:Value) (xs:List Ctl) (w:World) (h:SlV 3 p8 lo hi w v xs) (eg:∀args w,(callFunc gf args).run Tryz.prog w=.ok (.enter gf args) w)
 (hf:∀(i:Nat) (h:i<xs.length) (cs:List Value) (W:World),Ext w W→p8 lo hi W cs xs[i]→Calls Tryz.prog gf (#[.agg cs.toArray]++lb) W fun e W'=>e=.returned (.bool (p xs[i]))∧Ext W W') :
 Calls Tryz.prog 230 #[v,.func (.func gf) #[] lb] w fun e w'=>∃r:Int,e=.returned (.int .i64 r)∧decide (0≤r)=xs.any p∧Ext w w':=by
 obtain ⟨a,k,rfl,g1,g2,g3,g4⟩:=h
 unfold maxLen at g2
 go_enter Tryz.func230,Tryz.ntmps230
 go_wp2
 go_loopw [5,8] (fun _ c wr=>∃i:Nat,c=.int .i64 i∧i≤xs.length∧(xs.take i).any p=false∧Ext w wr) (fun _ c _=>xs.length - (intOf c).toNat)
 case atStart=>exact ⟨0,rfl,Nat.zero_le _,rfl,xw⟩
 case round=>
  obtain ⟨i,rfl,hi',hno,hx⟩:=hrel
  by_cases hlt:i<xs.length
  ·rcases g4 with g4|⟨b,o,rfl,gb1,gb2,g4⟩
   ·subst g4;simp at hlt
   ·obtain ⟨cs,hl,hP,hc⟩:=g4 i hlt
    have HP:=p8.keeps _ _ _ _ _ _ (jt.ext hx) hP
    have HF:=hf i hlt cs wr hx HP
    obtain ⟨rfl,e1,e2,e3⟩:=hP
    have q0:=hx.keep (hc 0 _ rfl)
    have q1:=hx.keep (hc 1 _ rfl)
    have q2:=hx.keep (hc 2 _ rfl)
    rw [Nat.add_zero] at q0
    clear g4 hc hf
    have hsucc:=ja p xs i hlt
    have hany:=Au p xs i hlt
    generalize hpv:p xs[i]=pv at HF hsucc hany
    cases pv
    ·go_wp2_with (refine HF.mono ?_;rintro e y ⟨rfl,hb⟩)
     go_roundw
     case rel=>exact ⟨i+1,rfl,by omega,by rw [hsucc,hno];rfl,xw⟩
     ·simp only [intOf];omega
    ·have hA:=Lib.hid (hany rfl)
     clear hany hsucc
     go_wp2_with (refine HF.mono ?_;rintro e y ⟨rfl,hb⟩)
     go_ret
     exact ⟨_,rfl,by rw [hA.out];simp,xw⟩
  ·go_wp2
   go_ret
   rw [List.take_of_length_le (by omega)] at hno
   exact ⟨_,rfl,by rw [hno];rfl,xw⟩
theorem dc (lo hi:Nat) (p:Ctl→Bool) (gf:FuncId) (lb:Array Value) (v:Value) (xs:List Ctl) (w:World) (h:SlV 3 p8 lo hi w v xs) (eg:∀args w,(callFunc gf args).run Tryz.prog w=.ok (.enter gf args) w)
 (hf:∀(i:Nat) (h:i<xs.length) (cs:List Value) (W:World),Ext w W→p8 lo hi W cs xs[i]→Calls Tryz.prog gf (#[.agg cs.toArray]++lb) W fun e W'=>e=.returned (.bool (p xs[i]))∧Ext W W') :
 Calls Tryz.prog 164 #[v,.func (.func gf) #[] lb] w fun e w'=>e=.returned (.bool (xs.any p))∧Ext w w':=by
 have H:=dt lo hi p gf lb v xs w h eg hf
 clear hf
 generalize xs.any p=r0 at H ⊢
 go_enter Tryz.func164,Tryz.ntmps164
 go_wp2_with (go_at_call 230;refine H.mono ?_;rintro e y ⟨r,rfl,hr,hb⟩)
 all_goals go_ret
 all_goals exact ⟨cE (by simp),xw⟩
end Go.Proofs.YtnobdioccfeokaaGreatDoor
namespace Go.Proofs.YtnobdioccfeokaaGreatDoor
open Go.RowKit
set_option linter.unusedVariables false
set_option linter.unusedSimpArgs false
def wT (c:UInt8):Bool:=inR (c.toNat:Int) 97 122
def cJ (s:ByteArray):Bool:=inR (s.size:Int) 1 4 && s.data.toList.all wT
def zS:List UInt8:=[97,98,99,100,101,102,103,104,105,106,107,108,109,110,111,112,113,114,115,116,117,118,119,120,121,122]
theorem G2:∀n:Fin 256,zS.contains (UInt8.ofNat n.val)=wT (UInt8.ofNat n.val):=by decide +kernel
theorem Gc (c:UInt8):zS.contains c=wT c:=by
 have h:=G2 ⟨c.toNat,c.toNat_lt⟩
 simpa using h
theorem lK (p:UInt8→Bool):∀l:List UInt8,l.dropWhile p = []↔l.all p=true:=by
 intro l
 induction l with
 | nil=>simp
 | cons x l ih=>
  rw [List.dropWhile_cons,List.all_cons]
  cases hx:p x
  ·simp
  ·simp only [if_true,Bool.true_and]
   exact ih
theorem qQ (p:UInt8→Bool):∀l:List UInt8,(l.dropWhile p).all p=true→l.all p=true:=by
 intro l
 induction l with
 | nil=>intro h;rfl
 | cons x l ih=>
  rw [List.dropWhile_cons]
  cases hx:p x
  ·simp [hx]
  ·simp only [if_true,List.all_cons,hx,Bool.true_and]
   exact ih
theorem Dx (l:List UInt8):(Lib.trimS l zS = [])↔l.all wT=true:=by
 have e:(fun c=>zS.contains c)=wT:=funext Gc
 unfold Lib.trimS Lib.trimLeftS Lib.trimRightS
 show List.dropWhile (fun c=>zS.contains c) ((List.dropWhile (fun c=>zS.contains c) l.reverse).reverse) = []↔_
 rw [e,lK,List.all_reverse]
 constructor
 ·intro h
  have:=qQ wT _ h
  rwa [List.all_reverse] at this
 ·intro h
  have h2:List.dropWhile wT l.reverse = []:=(lK wT _).2 (by rw [List.all_reverse];exact h)
  rw [h2];rfl
theorem yy (s:ByteArray):(⟨(Lib.trimS s.data.toList zS).toArray⟩:ByteArray).toList.isEmpty=s.data.toList.all wT:=by
 rw [Lib.toList_data]
 show (Lib.trimS s.data.toList zS).toArray.toList.isEmpty=_
 rw [List.toList_toArray]
 rw [Bool.eq_iff_iff,List.isEmpty_iff]
 exact Dx _
attribute [local irreducible] inR
set_option maxRecDepth 100000 in
set_option maxHeartbeats 800000 in
theorem dD (s:ByteArray) (w:World) (hs:s.size≤maxLen) :
 Calls Tryz.prog 63 #[.string s] w fun e w'=>e=.returned (.bool (cJ s))∧Ext w w':=by
 have hs':=hs
 unfold maxLen at hs'
 have HT:=Any.strings_Trim_laid Tryz.lays160 (by kernel_rfl) s ⟨zS.toArray⟩ w (by omega) (by decide) (ascii_of_all (by decide))
 change Calls Tryz.prog 115 _ _ _ at HT
 have HE:=Lib.hid (yy s)
 unfold cJ
 cases h1:inR (s.size:Int) 1 4
 ·have H1:=Lib.hid h1
  clear h1
  go_enter Tryz.func63,Tryz.ntmps63
  go_wp2_with (go_at_call 62;refine (cV _ _ _ _).mono ?_;rintro e w' ⟨rfl,rfl⟩;rw [H1.out])
  go_ret
  exact ⟨rfl,xw⟩
 ·have H1:=Lib.hid h1
  clear h1
  have HE2:Hid ((⟨(Lib.trimS s.data.toList zS).toArray⟩:ByteArray).toList.isEmpty=s.data.toList.all wT):=HE
  generalize hT:(⟨(Lib.trimS s.data.toList zS).toArray⟩:ByteArray)=T at HE2
  have HT2:Calls Tryz.prog 115 #[.string s,.string ⟨zS.toArray⟩] w fun e w'=>e=.returned (.string T)∧Ext w w':=HT.mono fun e w' ⟨h,k⟩=>⟨by rw [h,← hT],k⟩
  clear HT HE hT
  go_enter Tryz.func63,Tryz.ntmps63
  go_wp2_with (first|(go_at_call 62;refine (cV _ _ _ _).mono ?_;rintro e w' ⟨rfl,rfl⟩;rw [H1.out])|(go_at_call 115;refine HT2.mono ?_;rintro e y ⟨rfl,hb⟩))
  go_ret
  exact ⟨cE (by first|exact HE2.out|simpa using HE2.out),xw⟩
set_option maxHeartbeats 800000 in
theorem mu (s:ByteArray) (w:World) (hs:s.size≤maxLen) :
 Calls Tryz.prog 90 #[.string s] w fun e w'=>e=.returned (.bool (cJ s))∧Ext w w':=by
 unfold maxLen at hs
 have hlo:∀c:UInt8,wT c=(decide (97≤(c.toNat:Int)) && decide ((c.toNat:Int)≤122)):=fun c=>by unfold wT inR;rfl
 go_enter Tryz.func90,Tryz.ntmps90
 go_wp2
 go_loopw [3] (fun c wr=>∃k:Nat,k≤s.size∧c=.int .i64 k∧(s.data.toList.take k).all wT=true∧Ext w wr) (fun c _=>s.size - (intOf c).toNat)
 case atStart=>exact ⟨0,Nat.zero_le _,rfl,by simp,xw⟩
 case round=>
  obtain ⟨k,hk,rfl,hp,hx⟩:=hrel
  have HP:=Lib.hid hp
  clear hp
  by_cases hlt:k<s.size
  ·have hb:=Gy s k hlt
   have hsn:=Lib.hid (B2 s k hlt)
   have hat:=Lib.hid (H9 s wT k hlt)
   have hl:=Lib.hid (hlo s[k])
   clear hlo
   by_cases h1:(s[k].toNat:Int)<97
   ·go_wp2
    go_ret
    exact ⟨cE (by unfold cJ;rw [hat.out (by rw [hl.out];simp;omega),Bool.and_false]),xw⟩
   ·by_cases h2:(122:Int)<(s[k].toNat:Int)
    ·go_wp2
     go_ret
     exact ⟨cE (by unfold cJ;rw [hat.out (by rw [hl.out];simp;omega),Bool.and_false]),xw⟩
    ·go_wp2
     go_roundw
     case rel=>exact ⟨k+1,by omega,rfl,by rw [hsn.out,List.all_append,HP.out,List.all_cons,hl.out];simp;omega,xw⟩
     ·simp only [intOf];omega
  ·have hta:=Lib.hid (D4 s k hlt)
   go_wp2_with (go_at_call 49;refine (gR _ _ _ _).mono ?_;rintro e w' ⟨rfl,rfl⟩)
   go_ret
   exact ⟨cE (by unfold cJ;rw [← hta.out,HP.out,Bool.and_true]),xw⟩
end Go.Proofs.YtnobdioccfeokaaGreatDoor
namespace Go.Proofs.YtnobdioccfeokaaGreatDoor
open Go.RowKit
set_option linter.unusedVariables false
set_option linter.unusedSimpArgs false
attribute [local irreducible] inR cJ
def jv (a b:ByteArray):Bool:=a.toList == b.toList
def IP (c:Ctl):Bool:=cJ c.name && (inR c.ports 0 3 && inR c.kind 0 2)
def xD (l:List Ctl) (i:Nat) (c:Ctl):Bool:=!(l.take i).any (fun d=>jv d.name c.name)
def sN (l:List Ctl) (i:Nat):Bool:=match l[i]? with|none=>true|some c=>IP c && xD l i c
def iR (l:List Ctl):Bool:=inR (l.length:Int) 1 6 && (List.range l.length).all (sN l)
theorem aI (f:Nat→Bool) (i:Nat):(List.range (i+1)).all f=((List.range i).all f && f i):=by
 rw [List.range_succ,List.all_append];simp
theorem aG (f:Nat→Bool) (n i:Nat) (h:i<n) (hf:f i=false):(List.range n).all f=false:=by
 rw [List.all_eq_false]
 exact ⟨i,List.mem_range.2 h,by simp [hf]⟩
theorem qP (l:List Ctl) (i:Nat) (h:i<l.length):sN l i=(IP l[i] && xD l i l[i]):=by
 unfold sN;rw [List.getElem?_eq_getElem h]
theorem xp (l:List Ctl) (i:Nat) (h:i<l.length) (hb:sN l i=false):iR l=false:=by
 unfold iR;rw [aG _ _ i h hb,Bool.and_false]
theorem SlV.take {α:Type} {P:Lie α} {size lo hi:Nat} {w:World} {a:Option Addr} {n k:Nat} {xs:List α} (h:SlV size P lo hi w (.slice a n k) xs) (i:Nat) (hi':i≤xs.length):SlV size P lo hi w (.slice a i k) (xs.take i):=by
 obtain ⟨a',k',e,g1,g2,g3,g4⟩:=h
 simp only [Value.slice.injEq] at e
 obtain ⟨rfl,rfl,rfl⟩:=e
 have hl:(xs.take i).length=i:=by rw [List.length_take];omega
 refine ⟨a,k,by rw [hl],by omega,g2,g3,?_⟩
 rcases g4 with g4|⟨b,o,rfl,h1,h2,g4⟩
 ·left;rw [g4];simp
 ·refine .inr ⟨b,o,rfl,h1,h2,fun j hj=>?_⟩
  obtain ⟨cs,c1,c2,c3⟩:=g4 j (by omega)
  exact ⟨cs,c1,by rw [List.getElem_take];exact c2,c3⟩
theorem kN (lo hi B:Nat) (cs:List Value) (d:Ctl) (nm:ByteArray) (W:World) (hP:p8 lo hi W cs d) (hc:W.cell? ⟨B,0,none⟩=some (.string nm)) :
 Calls Tryz.prog 165 #[.agg cs.toArray,.pointer (some ⟨B,0,none⟩)] W fun e W'=>e=.returned (.bool (jv d.name nm))∧Ext W W':=by
 obtain ⟨rfl,e1,e2,e3⟩:=hP
 have hB:=World.block_lt_of_cell? W ⟨B,0,none⟩ hc
 have hne:¬B=W.heap.size:=by simp at hB;omega
 unfold jv
 go_enter Tryz.func165,Tryz.ntmps165
 go_wp2
 go_ret
 exact ⟨rfl,xw⟩
set_option maxRecDepth 100000 in
set_option maxHeartbeats 1600000 in
theorem lJ (lo hi:Nat) (v:Value) (l:List Ctl) (w:World) (h:Fy lo hi w v l) :
 Calls Tryz.prog 106 #[v] w fun e w'=>e=.returned (.bool (iR l))∧Ext w w':=by
 have hV:=h
 obtain ⟨a,k,rfl,g1,g2,g3,g4⟩:=h
 unfold maxLen at g2
 cases h1:inR (l.length:Int) 1 6
 ·have H1:=Lib.hid h1
  clear h1
  go_enter Tryz.func106,Tryz.ntmps106
  go_wp2_with (go_at_call 62;refine (cV _ _ _ _).mono ?_;rintro e w' ⟨rfl,rfl⟩;rw [H1.out])
  go_ret
  exact ⟨cE (by unfold iR;rw [H1.out];rfl),xw⟩
 ·have H1:=Lib.hid h1
  clear h1
  go_enter Tryz.func106,Tryz.ntmps106
  go_wp2_with (go_at_call 62;refine (cV _ _ _ _).mono ?_;rintro e w' ⟨rfl,rfl⟩;rw [H1.out])
  go_loopw [11] (fun c wr=>∃i:Nat,c=.int .i64 i∧i≤l.length∧(List.range i).all (sN l)=true∧Ext w wr) (fun c _=>l.length - (intOf c).toNat)
  case atStart=>exact ⟨0,rfl,Nat.zero_le _,rfl,xw⟩
  case round=>
   obtain ⟨i,rfl,hi',hok,hx⟩:=hrel
   have HOK:=Lib.hid hok
   clear hok
   by_cases hlt:i<l.length
   ·rcases g4 with g4|⟨b,o,rfl,gb1,gb2,g4⟩
    ·subst g4;simp at hlt
    ·obtain ⟨cs,hl,hP,hc⟩:=g4 i hlt
     have hbad:=xp l i hlt
     have hat:=qP l i hlt
     have hsucc:=aI (sN l) i
     have HV:=hV.keeps p8.keeps (jt.ext hx)
     have HT:=HV.take i (by omega)
     obtain ⟨rfl,e1,e2,e3⟩:=hP
     have q0:=hx.keep (hc 0 _ rfl)
     have q1:=hx.keep (hc 1 _ rfl)
     have q2:=hx.keep (hc 2 _ rfl)
     rw [Nat.add_zero] at q0
     clear g4 hc hV
     have hcb:IP l[i]=(cJ l[i].name && (inR l[i].ports 0 3 && inR l[i].kind 0 2)):=rfl
     generalize hn:cJ l[i].name=n1 at hcb
     generalize hp2:inR l[i].ports 0 3=n2 at hcb
     generalize hp3:inR l[i].kind 0 2=n3 at hcb
     have hfr:xD l i l[i] = !((l.take i).any (fun d=>jv d.name l[i].name)):=rfl
     generalize hp4:(l.take i).any (fun d=>jv d.name l[i].name)=n4 at hfr
     have HA:=Lib.hid hat
     have HC:=Lib.hid hcb
     have HF:=Lib.hid hfr
     have HS:=Lib.hid hsucc
     have H2:=Lib.hid hp2
     have H3:=Lib.hid hp3
     have H4:=Lib.hid hp4
     clear hat hcb hfr hsucc hp2 hp3 hp4
     go_wp2_with fail
     refine (dD _ _ e1).mono ?_
     rintro e y ⟨rfl,hb⟩
     rw [hn]
     clear hn
     have p0:=hb.keep (p:=⟨wr.heap.size,0,none⟩) (v:=.string l[i].name) (by simp)
     have p1:=hb.keep (p:=⟨wr.heap.size,1,none⟩) (v:=.int .i64 l[i].ports) (by simp)
     have p2:=hb.keep (p:=⟨wr.heap.size,2,none⟩) (v:=.int .i64 l[i].kind) (by simp)
     have hy:Ext wr y:=xw
     have HT':=HT.keeps p8.keeps (jt.ext hy)
     have hbad':n1=false∨n2=false∨n3=false∨n4=true→iR l=false:=fun hh=>hbad (by rw [HA.out,HC.out,HF.out];rcases hh with rfl|rfl|rfl|rfl <;> simp)
     cases n1
     ·have HB:=Lib.hid (hbad' (.inl rfl))
      go_wp2
      go_ret
      exact ⟨cE HB.out.symm,xw⟩
     ·cases n2
      ·have HB:=Lib.hid (hbad' (.inr (.inl rfl)))
       go_wp2_with (go_at_call 62;refine (cV _ _ _ _).mono ?_;rintro e w' ⟨rfl,rfl⟩;rw [H2.out])
       go_ret
       exact ⟨cE HB.out.symm,xw⟩
      ·cases n3
       ·have HB:=Lib.hid (hbad' (.inr (.inr (.inl rfl))))
        go_wp2_with (go_at_call 62;refine (cV _ _ _ _).mono ?_;rintro e w' ⟨rfl,rfl⟩;first|rw [H2.out]|rw [H3.out])
        go_ret
        exact ⟨cE HB.out.symm,xw⟩
       ·have hHB:=Lib.hid (fun h4=>hbad' (.inr (.inr (.inr h4))))
        have eg:∀args w,(callFunc 165 args).run Tryz.prog w=.ok (.enter 165 args) w:=enters_of Tryz.func165 (by kernel_rfl) rfl
        have HCF:=dc lo hi (fun d=>jv d.name l[i].name) 165 #[.pointer (some ⟨wr.heap.size,0,none⟩)] _ _ y HT' eg (fun j hj cs W hW hPW=>kN lo hi wr.heap.size cs _ l[i].name W hPW (hW.keep p0))
        rw [H4.out] at HCF
        clear hbad hbad' eg
        cases n4
        ·go_wp2_with (first|(go_at_call 62;refine (cV _ _ _ _).mono ?_;rintro e w' ⟨rfl,rfl⟩;first|rw [H2.out]|rw [H3.out])|(go_at_call 164;refine HCF.mono ?_;rintro e y2 ⟨rfl,hb2⟩))
         go_roundw
         case rel=>exact ⟨i+1,rfl,by omega,by rw [HS.out,HOK.out,HA.out,HC.out,HF.out];rfl,xw⟩
         ·simp only [intOf];omega
        ·have HB:=Lib.hid (hHB.out rfl)
         go_wp2_with (first|(go_at_call 62;refine (cV _ _ _ _).mono ?_;rintro e w' ⟨rfl,rfl⟩;first|rw [H2.out]|rw [H3.out])|(go_at_call 164;refine HCF.mono ?_;rintro e y2 ⟨rfl,hb2⟩))
         go_ret
         exact ⟨cE HB.out.symm,xw⟩
   ·go_wp2
    go_ret
    have e:i=l.length:=by omega
    subst e
    exact ⟨cE (by unfold iR;rw [H1.out,HOK.out];rfl),xw⟩
set_option maxRecDepth 100000 in
set_option maxHeartbeats 1600000 in
theorem sB (lo hi:Nat) (v:Value) (l:List Ctl) (w:World) (h:Fy lo hi w v l) :
 Calls Tryz.prog 84 #[v] w fun e w'=>e=.returned (.bool (iR l))∧Ext w w':=by
 obtain ⟨a,k,rfl,g1,g2,g3,g4⟩:=h
 unfold maxLen at g2
 go_enter Tryz.func84,Tryz.ntmps84
 go_wp2
 go_loopw [3] (fun c wr=>∃i:Nat,c=.int .i64 i∧i≤l.length∧(List.range i).all (sN l)=true∧Ext w wr) (fun c _=>l.length - (intOf c).toNat)
 case atStart=>exact ⟨0,rfl,Nat.zero_le _,rfl,xw⟩
 case round=>
  obtain ⟨i,rfl,hi',hok,hx⟩:=hrel
  have HOK:=Lib.hid hok
  clear hok
  by_cases hlt:i<l.length
  ·rcases g4 with g4|⟨b,o,rfl,gb1,gb2,g4⟩
   ·subst g4;simp at hlt
   ·have hbad:=xp l i hlt
    have hat:=qP l i hlt
    have hsucc:=aI (sN l) i
    obtain ⟨cs,hl,hP,hc⟩:=g4 i hlt
    obtain ⟨rfl,e1,e2,e3⟩:=hP
    have q0:=hx.keep (hc 0 _ rfl)
    have q1:=hx.keep (hc 1 _ rfl)
    have q2:=hx.keep (hc 2 _ rfl)
    rw [Nat.add_zero] at q0
    clear hc
    have hcb:IP l[i]=(cJ l[i].name && (inR l[i].ports 0 3 && inR l[i].kind 0 2)):=rfl
    generalize hn:cJ l[i].name=n1 at hcb
    generalize hp2:inR l[i].ports 0 3=n2 at hcb
    generalize hp3:inR l[i].kind 0 2=n3 at hcb
    have hfr:xD l i l[i] = !((l.take i).any (fun d=>jv d.name l[i].name)):=rfl
    generalize hp4:(l.take i).any (fun d=>jv d.name l[i].name)=n4 at hfr
    have HA:=Lib.hid hat
    have HC:=Lib.hid hcb
    have HF:=Lib.hid hfr
    have HS:=Lib.hid hsucc
    have H2:=Lib.hid hp2
    have H3:=Lib.hid hp3
    have H4:=Lib.hid hp4
    clear hat hcb hfr hsucc hp2 hp3 hp4
    have hbad':n1=false∨n2=false∨n3=false∨n4=true→iR l=false:=fun hh=>hbad (by rw [HA.out,HC.out,HF.out];rcases hh with rfl|rfl|rfl|rfl <;> simp)
    go_wp2_with fail
    refine (mu _ _ e1).mono ?_
    rintro e y ⟨rfl,hb⟩
    rw [hn]
    clear hn
    replace q0:=hb.keep q0
    replace q1:=hb.keep q1
    replace q2:=hb.keep q2
    have hy:=hx.trans hb
    cases n1
    ·have HB:=Lib.hid (hbad' (.inl rfl))
     go_wp2
     go_ret
     exact ⟨cE HB.out.symm,xw⟩
    ·cases n2
     ·have HB:=Lib.hid (hbad' (.inr (.inl rfl)))
      go_wp2_with (go_at_call 49;refine (gR _ _ _ _).mono ?_;rintro e w' ⟨rfl,rfl⟩;rw [H2.out])
      go_ret
      exact ⟨cE HB.out.symm,xw⟩
     ·cases n3
      ·have HB:=Lib.hid (hbad' (.inr (.inr (.inl rfl))))
       go_wp2_with (go_at_call 49;refine (gR _ _ _ _).mono ?_;rintro e w' ⟨rfl,rfl⟩;first|rw [H2.out]|rw [H3.out])
       go_ret
       exact ⟨cE HB.out.symm,xw⟩
      ·have hHB:=Lib.hid (fun h4=>hbad' (.inr (.inr (.inr h4))))
       clear hbad hbad'
       go_wp2_with (go_at_call 49;refine (gR _ _ _ _).mono ?_;rintro e w' ⟨rfl,rfl⟩;first|rw [H2.out]|rw [H3.out])
       go_loopw [4] (fun c wz=>∃j:Nat,c=.int .i64 j∧j≤i∧(l.take j).any (fun d=>jv d.name l[i].name)=false∧Ext y wz) (fun c _=>i - (intOf c).toNat)
       case atStart=>exact ⟨0,rfl,Nat.zero_le _,rfl,Ext.refl _⟩
       case round=>
        obtain ⟨j,rfl,hj',hno,hxz⟩:=hrel
        have HNO:=Lib.hid hno
        clear hno
        by_cases hji:j<i
        ·obtain ⟨ds,hdl,hD,hd⟩:=g4 j (by omega)
         obtain ⟨rfl,d1,d2,d3⟩:=hD
         have r0:=hxz.keep (hy.keep (hd 0 _ rfl))
         rw [Nat.add_zero] at r0
         have s0:=hxz.keep q0
         have hats:=Lib.hid (ja (fun d:Ctl=>jv d.name l[i].name) l j (by omega))
         have hany:jv l[j].name l[i].name=true→n4=true:=fun hh=>by
          rw [← H4.out]
          refine Au _ _ j (by rw [List.length_take];omega) ?_
          rw [List.getElem_take];exact hh
         have HANY:=Lib.hid hany
         clear hany hd
         have hse:jv l[j].name l[i].name=(l[j].name.toList == l[i].name.toList):=rfl
         cases hst:(l[j].name.toList == l[i].name.toList)
         ·rw [hst] at hse
          have HSE:=Lib.hid hse
          clear hse
          go_wp2_with (go_quiet (fail))
          go_roundw
          case rel=>exact ⟨j+1,rfl,by omega,by rw [hats.out,HNO.out];exact HSE.out,xw⟩
          ·simp only [intOf];omega
         ·rw [hst] at hse
          have HB:=Lib.hid (hHB.out (HANY.out hse))
          clear hse
          go_wp2_with (go_quiet (fail))
          go_ret
          exact ⟨cE HB.out.symm,xw⟩
        ·have e:j=i:=by omega
         subst e
         have hn4:n4=false:=by rw [← H4.out];exact HNO.out
         subst hn4
         go_wp2
         go_roundw
         case rel=>exact ⟨j+1,rfl,by omega,by rw [HS.out,HOK.out,HA.out,HC.out,HF.out];rfl,xw⟩
         ·simp only [intOf];omega
  ·have e:i=l.length:=by omega
   subst e
   go_wp2_with (go_at_call 49;refine (gR _ _ _ _).mono ?_;rintro e w' ⟨rfl,rfl⟩)
   go_ret
   exact ⟨cE (by unfold iR;rw [HOK.out,Bool.and_true]),xw⟩
end Go.Proofs.YtnobdioccfeokaaGreatDoor
namespace Go.Proofs.YtnobdioccfeokaaGreatDoor
open Go.RowKit
set_option linter.unusedVariables false
set_option linter.unusedSimpArgs false
attribute [local irreducible] inR cJ
def kU (a b:Int) (l:List Int) (i:Nat):Bool:=match l[i]? with|none=>true|some x=>inR x a b && (decide (i=0) || decide (l.getD (i - 1) 0<x))
def iq (a b:Int) (l:List Int):Bool:=(List.range l.length).all (kU a b l)
theorem tW (a b:Int) (l:List Int) (i:Nat) (h:i<l.length):kU a b l i=(inR l[i] a b && (decide (i=0) || decide (l.getD (i - 1) 0<l[i]))):=by
 unfold kU;rw [List.getElem?_eq_getElem h]
theorem tH (a b:Int) (l:List Int) (i:Nat) (h:i<l.length) (hb:kU a b l i=false):iq a b l=false:=aG _ _ i h hb
end Go.Proofs.YtnobdioccfeokaaGreatDoor
namespace Go.Proofs.YtnobdioccfeokaaGreatDoor
open Go.RowKit
set_option linter.unusedVariables false
set_option linter.unusedSimpArgs false
attribute [local irreducible] inR cJ iq iR
def kV (sig:List Ctl) (nest:List (List Int)) (i:Nat):Bool:=match sig[i]?,nest[i]? with
 | some c,some l=>iq 0 ((sig.length:Int) - 1) l && !(decide (c.kind=2) && decide (0<l.length))
 | _,_=>true
def iT (sig:List Ctl) (nest:List (List Int)):Bool:=decide (nest.length=sig.length) && (List.range nest.length).all (kV sig nest)
theorem s6 (sig:List Ctl) (nest:List (List Int)) (i:Nat) (h1:i<sig.length) (h2:i<nest.length):kV sig nest i=(iq 0 ((sig.length:Int) - 1) nest[i] && !(decide (sig[i].kind=2) && decide (0<(nest[i]).length))):=by
 unfold kV;rw [List.getElem?_eq_getElem h1,List.getElem?_eq_getElem h2]
theorem Aj (sig:List Ctl) (nest:List (List Int)) (i:Nat) (h:i<nest.length) (hb:kV sig nest i=false):iT sig nest=false:=by
 unfold iT;rw [aG _ _ i h hb,Bool.and_false]
end Go.Proofs.YtnobdioccfeokaaGreatDoor
namespace Go.Proofs.YtnobdioccfeokaaGreatDoor
open Go.RowKit
set_option linter.unusedVariables false
set_option linter.unusedSimpArgs false
attribute [local irreducible] inR cJ iq iR iT
def hZ (a b:Int × Int):Bool:=decide (a.1<b.1) || (decide (a.1=b.1) && decide (a.2<b.2))
def nG (a b:Int × Int):Int:=if a.1<b.1 then -1 else if b.1<a.1 then 1 else if a.2<b.2 then -1 else if b.2<a.2 then 1 else 0
theorem D5 (a b:Int × Int):decide (0≤nG a b) = !(hZ a b):=by
 unfold nG hZ
 by_cases h1:a.1<b.1 <;> by_cases h2:b.1<a.1 <;> by_cases h3:a.2<b.2 <;> by_cases h4:b.2<a.2 <;> simp [h1,h2,h3,h4] <;> omega
def iQ (sig:List Ctl) (sorts:List (List Int)) (many:Int) (i:Nat):Bool:=match sig[i]?,sorts[i]? with
 | some c,some l=>decide ((l.length:Int)=c.ports) && l.all (fun x=>inR x 0 (many - 1))
 | _,_=>true
def fE (sig:List Ctl) (sorts:List (List Int)) (many:Int):Bool:=decide (sorts.length=sig.length) && (List.range sorts.length).all (iQ sig sorts many)
theorem mN (sig:List Ctl) (nest:List (List Int)) (many:Int) (i:Nat) (h1:i<sig.length) (h2:i<nest.length):iQ sig nest many i=(decide (((nest[i]).length:Int)=sig[i].ports) && nest[i].all (fun x=>inR x 0 (many - 1))):=by
 unfold iQ;rw [List.getElem?_eq_getElem h1,List.getElem?_eq_getElem h2]
theorem zL (sig:List Ctl) (nest:List (List Int)) (many:Int) (i:Nat) (h:i<nest.length) (hb:iQ sig nest many i=false):fE sig nest many=false:=by
 unfold fE;rw [aG _ _ i h hb,Bool.and_false]
theorem fA {α:Type} (p:α→Bool) (xs:List α) (i:Nat) (h:i<xs.length):(xs.take (i+1)).all p=((xs.take i).all p && p xs[i]):=by
 rw [List.take_succ_eq_append_getElem h,List.all_append,List.all_cons,List.all_nil,Bool.and_true]
theorem oR {α:Type} (p:α→Bool) (xs:List α) (i:Nat) (h:i<xs.length) (hp:p xs[i]=false):xs.all p=false:=by
 rw [List.all_eq_false];exact ⟨_,List.getElem_mem h,by simp [hp]⟩
set_option maxHeartbeats 1600000 in
theorem iU (A B:Nat) (a b:Int × Int) (k k':Nat) (w:World) (ha0:w.cell? ⟨A,0,none⟩=some (.int .i64 a.1)) (ha1:w.cell? ⟨A,1,none⟩=some (.int .i64 a.2)) (hb0:w.cell? ⟨B,0,none⟩=some (.int .i64 b.1)) (hb1:w.cell? ⟨B,1,none⟩=some (.int .i64 b.2)) :
 Calls Tryz.prog 231 #[.slice (some ⟨A,0,none⟩) 2 k,.slice (some ⟨B,0,none⟩) 2 k'] w fun e w'=>∃r:Int,e=.returned (.int .i64 r)∧(decide (0≤r) = !(hZ a b)∧r=nG a b)∧w=w':=by
 obtain ⟨a1,a2⟩:=a
 obtain ⟨b1,b2⟩:=b
 unfold hZ
 have HC:∀x y w,Calls Tryz.prog 262 #[.int .i64 x,.int .i64 y] w fun e w'=>e=.returned (.int .i64 (if x<y then -1 else if y<x then 1 else 0))∧w'=w:=fun x y w=>(Tryz.cmp_Compare_int x y w).mono (by
  rintro e y' ⟨rfl,rfl⟩;exact ⟨by unfold Lib.compareInt;congr 2,rfl⟩)
 go_enter Tryz.func231,Tryz.ntmps231
 go_wp2
 go_loopw [11] (fun c wr=>∃i:Nat,c=.int .i64 i∧i≤2∧(1≤i→a1=b1)∧(2≤i→a2=b2)∧w=wr) (fun c _=>2 - (intOf c).toNat)
 case atStart=>exact ⟨0,rfl,by omega,fun h=>by omega,fun h=>by omega,rfl⟩
 case round=>
  obtain ⟨i,rfl,hi,h1,h2,rfl⟩:=hrel
  have:i=0∨i=1∨i=2:=by omega
  rcases this with rfl|rfl|rfl
  ·rcases Int.lt_trichotomy a1 b1 with h|h|h
   ·go_wp2_with (go_at_call 262;refine (HC _ _ _).mono ?_;rintro e w' ⟨rfl,rfl⟩;rw [if_pos h])
    go_ret
    exact ⟨_,rfl,⟨by simp [h],by unfold nG;simp [h]⟩,rfl⟩
   ·go_wp2_with (go_at_call 262;refine (HC _ _ _).mono ?_;rintro e w' ⟨rfl,rfl⟩;rw [if_neg (by omega),if_neg (by omega)])
    go_roundw
    case rel=>exact ⟨1,rfl,by omega,fun _=>h,fun h=>by omega,by first|rfl|trivial⟩
    ·simp [intOf]
   ·go_wp2_with (go_at_call 262;refine (HC _ _ _).mono ?_;rintro e w' ⟨rfl,rfl⟩;rw [if_neg (by omega),if_pos h])
    go_ret
    exact ⟨_,rfl,⟨by simp;omega,by unfold nG;dsimp only;(repeat' split) <;> omega⟩,rfl⟩
  ·have e1:=h1 (by omega)
   rcases Int.lt_trichotomy a2 b2 with h|h|h
   ·go_wp2_with (go_at_call 262;refine (HC _ _ _).mono ?_;rintro e w' ⟨rfl,rfl⟩;rw [if_pos h])
    go_ret
    exact ⟨_,rfl,⟨by simp [e1,h],by unfold nG;simp [e1,h]⟩,rfl⟩
   ·go_wp2_with (go_at_call 262;refine (HC _ _ _).mono ?_;rintro e w' ⟨rfl,rfl⟩;rw [if_neg (by omega),if_neg (by omega)])
    go_roundw
    case rel=>exact ⟨2,rfl,by omega,fun _=>e1,fun _=>h,by first|rfl|trivial⟩
    ·simp [intOf]
   ·go_wp2_with (go_at_call 262;refine (HC _ _ _).mono ?_;rintro e w' ⟨rfl,rfl⟩;rw [if_neg (by omega),if_pos h])
    go_ret
    exact ⟨_,rfl,⟨by simp;omega,by unfold nG;dsimp only;(repeat' split) <;> omega⟩,rfl⟩
  ·have e1:=h1 (by omega)
   have e2:=h2 (by omega)
   go_wp2
   go_ret
   exact ⟨_,rfl,⟨by simp;omega,by unfold nG;dsimp only;(repeat' split) <;> omega⟩,rfl⟩
theorem lz (a b:Int × Int) (w:World) :
 Calls Tryz.prog 167 #[.agg #[.int .i64 a.1,.int .i64 a.2],.agg #[.int .i64 b.1,.int .i64 b.2]] w fun e w'=>∃r:Int,e=.returned (.int .i64 r)∧(decide (0≤r) = !(hZ a b)∧r=nG a b)∧Ext w w':=by
 have H:=fun A B k k' w=>iU A B a b k k' w
 generalize hZ a b=r0 at H ⊢
 generalize nG a b=r1 at H ⊢
 go_enter Tryz.func167,Tryz.ntmps167
 go_wp2_with fail
 refine wp_region_held_drew (S:=(fun w'=>(w'.cell? ⟨w.heap.size,0,none⟩=some (.int .i64 a.1)∧w'.cell? ⟨w.heap.size,1,none⟩=some (.int .i64 a.2)∧w'.cell? ⟨w.heap.size+1,0,none⟩=some (.int .i64 b.1)∧w'.cell? ⟨w.heap.size+1,1,none⟩=some (.int .i64 b.2))∧Ext w w')) (by kernel_rfl) ?_ (fun hHeld=>?_)
 ·exact ⟨⟨by simp,by simp,by simp,by simp⟩,xw⟩
 refine tkP 0 ?_ ?_ ?_;rotate_left;focus (intro w;go_simp;try with_reducible rfl)
 try simp only [Act.put,uy]
 refine tkP 1 ?_ ?_ ?_;rotate_left;focus (intro w;go_simp;try with_reducible rfl)
 try simp only [Act.put,uy]
 refine wpAnyH_ready (rs:=[2]) (by kernel_rfl) (by simp) ?_
 refine AllReadyH.cons rfl (fun K hK=>?_) AllReadyH.nil
 (try simp only [uy])
 go_simp
 (have hh:=hHeld;(try dsimp only at hh);obtain ⟨⟨s0,s1,s2,s3⟩,s4⟩:=hh;go_at_call 231;refine (H _ _ _ _ _ s0 s1 s2 s3).mono ?_;rintro e y ⟨r,rfl,hr,rfl⟩)
 show K _ _
 refine hK.out _ _ (by exact hHeld) (fun hHeld=>?_)
 clear hK K
 try simp only [Act.put,uy]
 refine tkP 3 ?_ ?_ ?_;rotate_left;focus (intro w;go_simp;try with_reducible rfl)
 try simp only [Act.put,uy]
 refine wpAnyH_done (by kernel_rfl) ?_ _
 all_goals go_wp2
 all_goals go_ret
 all_goals exact ⟨_,rfl,⟨hr.2 ▸ hr.1,rfl⟩,xw⟩
end Go.Proofs.YtnobdioccfeokaaGreatDoor
namespace Go.Proofs.YtnobdioccfeokaaGreatDoor
open Go.RowKit
set_option linter.unusedVariables false
set_option linter.unusedSimpArgs false
theorem IK (p1 p2 many X:Int) (h:0≤p2→X=p2 - 1):(inR p1 0 X && inR p2 0 (many - 1))=(decide (0≤p1) && (decide (p1<p2) && decide (p2<many))):=by
 unfold inR
 rw [Bool.eq_iff_iff]
 simp only [Bool.and_eq_true,decide_eq_true_eq]
 by_cases h0:0≤p2
 ·rw [h h0];omega
 ·omega
def kf (many:Int) (l:List (Int × Int)) (i:Nat):Bool:=match l[i]? with
 | none=>true
 | some p=>(decide (0≤p.1) && (decide (p.1<p.2) && decide (p.2<many))) && (decide (i=0) || hZ (l.getD (i - 1) (0,0)) p)
def gg (many:Int) (l:List (Int × Int)):Bool:=(List.range l.length).all (kf many l)
theorem jM (many:Int) (l:List (Int × Int)) (i:Nat) (h:i<l.length):kf many l i=((decide (0≤l[i].1) && (decide (l[i].1<l[i].2) && decide (l[i].2<many))) && (decide (i=0) || hZ (l.getD (i - 1) (0,0)) l[i])):=by
 unfold kf;rw [List.getElem?_eq_getElem h]
theorem qv (many:Int) (l:List (Int × Int)) (i:Nat) (h:i<l.length) (hb:kf many l i=false):gg many l=false:=aG _ _ i h hb
attribute [local irreducible] inR cJ iq iR iT fE hZ gg
end Go.Proofs.YtnobdioccfeokaaGreatDoor
namespace Go.Proofs.YtnobdioccfeokaaGreatDoor
open Go.RowKit
set_option linter.unusedVariables false
set_option linter.unusedSimpArgs false
theorem lU (w:World) (cs:List Value) (T:TypeId):∃W0,w.alloc (.cells cs.toArray T)=W0∧ey W0 w.heap.size cs∧Ext w W0∧W0.heap.size=w.heap.size+1:=
 ⟨_,rfl,ey.new w T cs _ rfl,Ext.alloc (Ext.refl w) _,by simp⟩
theorem ig {α:Type} (p:α→Bool) (l:List α):l.any (fun x=>!(p x)) = !(l.all p):=by
 induction l with
 | nil=>rfl
 | cons x l ih=>simp only [List.any_cons,List.all_cons,ih];cases p x <;> simp
theorem FS (n:Nat) (f g:Nat→Bool):(List.range n).all (fun i=>f i && g i)=((List.range n).all f && (List.range n).all g):=by
 induction n with
 | zero=>rfl
 | succ n ih=>rw [aI,aI,aI,ih];cases (List.range n).all f <;> cases (List.range n).all g <;> cases f n <;> cases g n <;> rfl
def iX (x:Int):Bool:=inR x 0 24
theorem DF (l:List Int):l.any (fun x=>!(inR x 0 24)) = !(l.all iX):=ig iX l
def gm (sig:List Ctl) (s:Srt):Bool:=iR sig && (iq 0 ((sig.length:Int) - 1) s.tops && (iT sig s.nest && (fE sig s.sorts (s.most.length:Int) && (inR (s.most.length:Int) 1 4 && (s.most.all iX && gg (s.most.length:Int) s.apart)))))
def nz (sig:List Ctl) (s:Srt) (i:Nat):Bool:=kV sig s.nest i && iQ sig s.sorts (s.most.length:Int) i
theorem qo (sig:List Ctl) (s:Srt) (h1:s.nest.length=sig.length) (h2:s.sorts.length=sig.length):(iT sig s.nest && fE sig s.sorts (s.most.length:Int))=(List.range sig.length).all (nz sig s):=by
 show _=(List.range sig.length).all (fun i=>kV sig s.nest i && iQ sig s.sorts (s.most.length:Int) i)
 rw [FS]
 unfold iT fE
 rw [h1,h2];simp
theorem bB {n a b:Int} (h:inR n a b=true):a≤n∧n≤b:=by unfold inR at h;simpa using h
theorem EA {l:List Ctl} (h:iR l=true):1≤l.length∧l.length≤6:=by
 unfold iR at h
 have:=bB (Bool.and_eq_true_iff.1 h).1
 omega
theorem jj {sig:List Ctl} {s:Srt} (h:iR sig=false∨iq 0 ((sig.length:Int) - 1) s.tops=false∨¬(s.nest.length:Int)=(sig.length:Int)∨¬(s.sorts.length:Int)=(sig.length:Int)∨inR (s.most.length:Int) 1 4=false∨s.most.all iX=false∨gg (s.most.length:Int) s.apart=false):gm sig s=false:=by
 unfold gm
 rcases h with h|h|h|h|h|h|h
 ·rw [h];rfl
 ·rw [h];simp
 ·have:iT sig s.nest=false:=by unfold iT;simp;intro hh;omega
  rw [this];simp
 ·have:fE sig s.sorts (s.most.length:Int)=false:=by unfold fE;simp;intro hh;omega
  rw [this];simp
 ·rw [h];simp
 ·rw [h];simp
 ·rw [h];simp
attribute [local irreducible] inR cJ iq iR iT fE gg iX
theorem AI (sig:List Ctl) (s:Srt) (h1:(s.nest.length:Int)=(sig.length:Int)) (h2:(s.sorts.length:Int)=(sig.length:Int)) (i:Nat) (hi:i<sig.length) (h:nz sig s i=false):gm sig s=false:=by
 have:=qo sig s (by omega) (by omega)
 rw [aG _ _ i hi h] at this
 unfold gm
 rcases Bool.and_eq_false_iff.1 this with h|h <;> rw [h] <;> simp
theorem zM {sig:List Ctl} {s:Srt} (h1:(s.nest.length:Int)=(sig.length:Int)) (h2:(s.sorts.length:Int)=(sig.length:Int)) (a:iR sig=true) (b:iq 0 ((sig.length:Int) - 1) s.tops=true) (c:inR (s.most.length:Int) 1 4=true) (d:s.most.all iX=true) (e:gg (s.most.length:Int) s.apart=true) (h:(List.range sig.length).all (nz sig s)=true):gm sig s=true:=by
 have:=qo sig s (by omega) (by omega)
 rw [h,Bool.and_eq_true_iff] at this
 unfold gm
 rw [this.1,this.2,a,b,c,d,e];rfl
theorem B7 (sig:List Ctl) (s:Srt) (i:Nat) (h1:i<sig.length) (h2:i<s.nest.length) (h3:i<s.sorts.length):nz sig s i=((iq 0 ((sig.length:Int) - 1) s.nest[i] && !(decide (sig[i].kind=2) && decide (0<(s.nest[i]).length))) && (decide (((s.sorts[i]).length:Int)=sig[i].ports) && !(s.sorts[i].any (fun x=>!(inR x 0 ((s.most.length:Int) - 1)))))):=by
 unfold nz;rw [s6 sig s.nest i h1 h2,mN sig s.sorts _ i h1 h3,ig,Bool.not_not]
end Go.Proofs.YtnobdioccfeokaaGreatDoor
namespace Go.Proofs.YtnobdioccfeokaaGreatDoor
open Go.RowKit
set_option linter.unusedVariables false
set_option linter.unusedSimpArgs false
theorem Di {w w':World} (h:w.grownBy w' none):Ext w w':=⟨h.os,h.tape,h.output,h.size,fun k hk=>h.block k hk (by simp)⟩
theorem wt:(Tryz.prog.info? 3).map (fun i=>(i.zero,i.size,i.bytes))=some (some (.int .i64 0),1,8):=by kernel_rfl
theorem B6:(Tryz.prog.info? 9).map (fun i=>(i.zero,i.size,i.bytes))=some (some (.string ⟨#[]⟩),1,16):=by kernel_rfl
theorem Dc:(Tryz.prog.info? 138).map (fun i=>(i.zero,i.size,i.bytes))=some (some (.agg #[.int .i64 0,.int .i64 0]),2,16):=by kernel_rfl
end Go.Proofs.YtnobdioccfeokaaGreatDoor
namespace Go.Proofs.YtnobdioccfeokaaGreatDoor
open Go.RowKit
set_option linter.unusedVariables false
set_option linter.unusedSimpArgs false
attribute [local irreducible] inR cJ iq iR iT fE gg iX gm hZ
end Go.Proofs.YtnobdioccfeokaaGreatDoor
namespace Go.Proofs.YtnobdioccfeokaaGreatDoor
open Go.RowKit
set_option linter.unusedVariables false
set_option linter.unusedSimpArgs false
def cN (a b:ByteArray):Bool:=Op.bytesLess a.toList b.toList
theorem jP:∀x y:List UInt8,(Op.bytesLess x y || (x == y)) = !(Op.bytesLess y x):=by
 intro x
 induction x with
 | nil=>intro y;cases y <;> simp [Op.bytesLess]
 | cons a x ih=>
  intro y
  cases y with
  | nil=>simp [Op.bytesLess]
  | cons b y=>
   simp only [Op.bytesLess]
   have hih:=ih y
   by_cases h1:a<b
   ·have h2:¬b<a:=by simp only [UInt8.lt_iff_toNat_lt] at *;omega
    have h3:¬b=a:=by intro h;subst h;exact h2 h1
    simp [h1,h2,h3]
   ·by_cases h2:b<a
    ·have h3:¬a=b:=by intro h;subst h;exact h1 h2
     simp [h1,h2,h3]
    ·have h3:a=b:=by
      simp only [UInt8.lt_iff_toNat_lt] at *
      exact UInt8.toNat_inj.1 (by omega)
     subst h3
     simp [h1]
     simpa using hih
theorem BU (a b:ByteArray):(Op.bytesLess a.toList b.toList || (a.toList == b.toList)) = !(cN b a):=jP _ _
def BA (l:List ByteArray) (i:Nat):Bool:=match l[i]? with|none=>true|some s=>cJ s && (decide (i=0) || cN (l.getD (i - 1) ⟨#[]⟩) s)
def dg (l:List ByteArray):Bool:=(List.range l.length).all (BA l) && decide ((l.length:Int)≤16)
theorem rc (l:List ByteArray) (i:Nat) (h:i<l.length):BA l i=(cJ l[i] && (decide (i=0) || cN (l.getD (i - 1) ⟨#[]⟩) l[i])):=by
 unfold BA;rw [List.getElem?_eq_getElem h]
theorem qa (l:List ByteArray) (i:Nat) (h:i<l.length) (hb:BA l i=false):dg l=false:=by
 unfold dg;rw [aG _ _ i h hb];rfl
attribute [local irreducible] inR cJ cN
set_option maxHeartbeats 1600000 in
theorem oL (lo hi:Nat) (v:Value) (l:List ByteArray) (w:World) (h:FW lo hi w v l) :
 Calls Tryz.prog 180 #[v] w fun e w'=>e=.returned (.bool (dg l))∧Ext w w':=by
 obtain ⟨a,k,rfl,g1,g2,g3,g4⟩:=h
 unfold maxLen at g2
 go_enter Tryz.func180,Tryz.ntmps180
 go_wp2
 go_loopw [7] (fun c wr=>∃i:Nat,c=.int .i64 i∧i≤l.length∧(List.range i).all (BA l)=true∧Ext w wr) (fun c _=>l.length - (intOf c).toNat)
 case atStart=>exact ⟨0,rfl,Nat.zero_le _,rfl,xw⟩
 case round=>
  obtain ⟨i,rfl,hi',hok,hx⟩:=hrel
  have HOK:=Lib.hid hok
  clear hok
  by_cases hlt:i<l.length
  ·rcases g4 with g4|⟨b,o,rfl,gb1,gb2,g4⟩
   ·subst g4;simp at hlt
   obtain ⟨cs,hl,⟨rfl,e1⟩,hc⟩:=g4 i hlt
   have q0:=hx.keep (hc 0 _ rfl)
   rw [Nat.mul_one,Nat.add_zero] at q0
   clear hc
   have hbad:=qa l i hlt
   have HA:=Lib.hid (rc l i hlt)
   have HS:=Lib.hid (aI (BA l) i)
   by_cases hn:i=0
   ·subst hn
    simp only [Nat.add_zero] at q0
    cases ha:cJ l[0]
    have Ha:=Lib.hid ha;clear ha
    have HB:=Lib.hid (hbad (by rw [HA.out];simp [Ha.out]))
    clear hbad
    have isF:=trivial
    rotate_left
    have Ha:=Lib.hid ha;clear ha
    have HG:=Lib.hid (show BA l 0=true by rw [HA.out];simp [Ha.out])
    clear hbad
    have isP:=trivial
    all_goals go_wp2_with (first|(go_at_call 63;(refine (dD _ _ e1).mono ?_);rintro e y ⟨rfl,hb⟩;rw [Ha.out]))
    all_goals first|(have:=isF;go_ret;exact ⟨cE HB.out.symm,xw⟩)|(have:=isP;go_roundw;(case rel=>exact ⟨1,rfl,by omega,by rw [HS.out,HOK.out,HG.out];rfl,xw⟩);· simp only [intOf];omega)
   ·obtain ⟨j,rfl⟩:∃j,i=j+1:=⟨i - 1,by omega⟩
    obtain ⟨ds,hdl,⟨rfl,d1⟩,hd⟩:=g4 j (by omega)
    have r0:=hx.keep (hd 0 _ rfl)
    rw [Nat.mul_one,Nat.add_zero] at r0
    have hg:l.getD j ⟨#[]⟩=l[j]:=by rw [List.getD_eq_getElem?_getD,List.getElem?_eq_getElem (by omega)];rfl
    have HG:=Lib.hid hg
    have HLE:=Lib.hid (BU l[j+1] l[j])
    have jw:=IntWalk.i64_in (((j+1:Nat):Int) - 1) (by omega)
    have je:((j+1:Nat):Int) - 1=j:=by omega
    clear hd hg g4
    cases hle:cN l[j] l[j+1]
    ·have HB:=Lib.hid (hbad (by rw [HA.out,show j+1 - 1=j by omega,HG.out,hle];simp))
     have hz:=HLE.out
     rw [hle] at hz
     have HZ:=Lib.hid hz
     clear hbad hle
     cases ha:cJ l[j+1]
     ·have Ha:=Lib.hid ha
      clear ha hz
      go_wp2_with (go_at_call 63;refine (dD _ _ e1).mono ?_;rintro e y ⟨rfl,hb⟩;rw [Ha.out])
      go_ret
      exact ⟨cE HB.out.symm,xw⟩
     ·have Ha:=Lib.hid ha
      clear ha
      go_wp2_with (go_at_call 63;refine (dD _ _ e1).mono ?_;rintro e y ⟨rfl,hb⟩;rw [Ha.out];replace r0:=hb.keep r0)
      all_goals first
       | (go_ret;exact ⟨cE HB.out.symm,xw⟩)
       | (exfalso;have hh:=HZ.out;simp_all;done)
    ·have hz:=HLE.out
     rw [hle] at hz
     have HL:=Lib.hid hle
     have HZ:=Lib.hid hz
     clear hle
     cases ha:cJ l[j+1]
     ·have HB:=Lib.hid (hbad (by rw [HA.out,ha];rfl))
      have Ha:=Lib.hid ha
      clear ha hbad hz
      go_wp2_with (go_at_call 63;refine (dD _ _ e1).mono ?_;rintro e y ⟨rfl,hb⟩;rw [Ha.out])
      go_ret
      exact ⟨cE HB.out.symm,xw⟩
     ·have HG2:=Lib.hid (show BA l (j+1)=true by rw [HA.out,show j+1 - 1=j by omega,HG.out,ha,HL.out];simp)
      have Ha:=Lib.hid ha
      clear ha hbad
      go_wp2_with (go_at_call 63;refine (dD _ _ e1).mono ?_;rintro e y ⟨rfl,hb⟩;rw [Ha.out];replace r0:=hb.keep r0)
      all_goals first
       | (exfalso;have hh:=HZ.out;simp_all;done)
       | (go_roundw
          case rel=>exact ⟨j+1+1,rfl,by omega,by rw [HS.out,HOK.out,HG2.out];rfl,xw⟩
          case measure=>simp only [intOf];omega)
  ·have e:i=l.length:=by omega
   subst e
   have HL:=Lib.hid (show dg l=decide ((l.length:Int)≤16) by unfold dg;rw [HOK.out];rfl)
   go_wp2
   go_ret
   exact ⟨cE HL.out.symm,xw⟩
end Go.Proofs.YtnobdioccfeokaaGreatDoor
namespace Go.Proofs.YtnobdioccfeokaaGreatDoor
open Go.RowKit
set_option linter.unusedVariables false
set_option linter.unusedSimpArgs false
def qf (sig:List Ctl) (k:Int):Ctl:=sig.getD k.toNat ⟨⟨#[]⟩,0,0⟩
def dF (b:Big) (k:Int):Nd:=b.nodes.getD k.toNat ⟨0,0,[]⟩
def dw (sig:List Ctl) (b:Big) (p below:Int):Bool:=if p<0 then decide (-b.roots≤p) else decide (p<below) && !(decide ((qf sig (dF b p).control).kind=2))
def fw (b:Big) (l:Int):Bool:=inR l 0 (b.edges+b.outer.length - 1)
def AA (sig:List Ctl) (b:Big) (n:Int):Prop:=∀i (h:i<b.nodes.length),(i:Int)<n→0≤b.nodes[i].control∧b.nodes[i].control<sig.length
theorem aB (b:Big) (i:Nat) (h:i<b.nodes.length):dF b i=b.nodes[i]:=by
 unfold dF;rw [Int.toNat_natCast,List.getD_eq_getElem?_getD,List.getElem?_eq_getElem h];rfl
theorem iD (sig:List Ctl) (i:Nat) (h:i<sig.length):qf sig i=sig[i]:=by
 unfold qf;rw [Int.toNat_natCast,List.getD_eq_getElem?_getD,List.getElem?_eq_getElem h];rfl
theorem qd {sig:List Ctl} {b:Big} {p below:Int} (h:p<0):dw sig b p below=decide (-b.roots≤p):=if_pos h
theorem wc {sig:List Ctl} {b:Big} {p below:Int} (h:p<0) (h2:I64 p):inR (-1 - p) 0 (b.roots - 1)=dw sig b p below:=by
 rw [qd h];unfold inR;rw [Bool.eq_iff_iff];simp;omega
theorem yq {sig:List Ctl} {b:Big} {p below:Int} (h:¬p<0):dw sig b p below=(decide (p<below) && !(decide ((qf sig (dF b p).control).kind=2))):=if_neg h
theorem yQ (xs:List Wr) (i:Nat) (h:i<xs.length):(xs.take (i+1)).map Wr.name=(xs.take i).map Wr.name++[xs[i].name]:=by
 rw [List.take_succ_eq_append_getElem h,List.map_append];rfl
theorem EW {α β:Type} (f:α→β) (xs:List α) (i:Nat) (h:i≤xs.length):((xs.take i).map f).length=i:=by simp;omega
attribute [local irreducible] inR cJ cN
set_option maxRecDepth 100000 in
set_option maxHeartbeats 1600000 in
theorem iJ (lo hi:Nat) (cs:List Value) (b:Big) (w:World) (h:r9 lo hi w cs b) (hlen:b.inner.length≤1048576) :
 Calls Tryz.prog 181 #[.agg cs.toArray] w fun e w'=>∃v,e=.returned v∧SlV 1 pH w.heap.size w'.heap.size w' v (b.inner.map Wr.name)∧Ext w w':=by
 obtain ⟨v1,v2,v4,v5,rfl,r1,r2,hN,hS,hO,hI⟩:=h
 obtain ⟨a5,k5,rfl,g1,g2,g3,g4⟩:=hI
 unfold maxLen at g2
 obtain ⟨i0,hi0,hz0,hz1,hz2⟩:=info_parts B6
 obtain ⟨W0,hW0,hbx,hx0,hz⟩:=lU w [.int .i64 b.roots,v1,v2,.int .i64 b.edges,v4,.slice a5 b.inner.length k5] 45
 have p5:=(hbx 5 _ rfl).1
 have hrow0:kk 1 pH 9 W0.heap.size (W0.alloc (.cells #[] 9)) (.slice (some ⟨W0.heap.size,0,none⟩) 0 0) []:=kk.made (Nat.le_refl _)
 have hz':w.heap.size<W0.heap.size:=by omega
 clear hz
 go_enter Tryz.func181,Tryz.ntmps181
 go_wp2
 go_loopw [10,3] (fun c v wr=>∃i:Nat,c=.int .i64 i∧i≤b.inner.length∧kk 1 pH 9 W0.heap.size wr v ((b.inner.take i).map Wr.name)∧Ext W0 wr) (fun c _ _=>b.inner.length - (intOf c).toNat)
 case atStart=>exact ⟨0,rfl,Nat.zero_le _,by simpa using hrow0,xw⟩
 case round=>
  obtain ⟨i,rfl,hi',hrow,hx⟩:=hrel
  replace p5:=hx.keep p5
  have hX:Ext w wr:=xw
  by_cases hlt:i<b.inner.length
  ·rcases g4 with g4|⟨b',o,rfl,gb1,gb2,g4⟩
   ·rw [g4] at hlt;simp at hlt
   obtain ⟨cs,hl,⟨rfl,e1,e2⟩,hc⟩:=g4 i hlt
   have q0:=hX.keep (hc 0 _ rfl)
   have q1:=hX.keep (hc 1 _ rfl)
   rw [Nat.add_zero] at q0
   clear hc g4
   have HT:=Lib.hid (yQ b.inner i hlt)
   have HL:=Lib.hid (EW Wr.name b.inner i hi')
   have hsz:=Below.size hx
   go_wp2_with (at_builtin;refine mQ pH.keeps rfl (.tmp 14) (.tmp 17) 29 rfl (W0.heap.size) 9 i0 _ 16 Tryz.underlying29 hi0 hz0 hz1 hz2 rfl (by decide) _ _ (by rfl) (hrow.ext pH.keeps xw) ⟨wr.heap.size+1,0,none⟩ 1 [.string b.inner[i].name] rfl rfl (nQ (by simp)) (by simp [Value.oneCell']) (W0.heap.size) (W0.heap.size) (Nat.le_refl _) (by first|omega|(simp;omega)) (fun g hg=>.inr (hrow.block g hg).1) (b.inner[i].name) ⟨rfl,e1⟩ (by first|omega|(simp;omega)) (by decide) (by first|omega|(simp;omega)) ?_;intro v3 w3 row3 ext3)
   have hx3:=ext3 W0 xw (Nat.le_refl _)
   go_roundw
   case rel=>exact ⟨i+1,rfl,by omega,by rw [HT.out];exact row3,xw⟩
   ·simp only [intOf];omega
  ·have HT:=Lib.hid (show b.inner.take i=b.inner from List.take_of_length_le (by omega))
   go_wp2
   go_ret
   rw [HT.out] at hrow
   exact ⟨_,rfl,hrow.toSlV pH.widens (by omega),hX⟩
end Go.Proofs.YtnobdioccfeokaaGreatDoor
namespace Go.Proofs.YtnobdioccfeokaaGreatDoor
open Go.RowKit
set_option linter.unusedVariables false
set_option linter.unusedSimpArgs false
def fW (sig:List Ctl) (b:Big) (i:Nat):Bool:=match b.nodes[i]? with
 | none=>true
 | some n=>inR n.control 0 ((sig.length:Int) - 1) && (dw sig b n.parent i && (decide ((n.links.length:Int)=(qf sig n.control).ports) && n.links.all (fw b)))
def gr (sig:List Ctl) (b:Big):Bool:=iR sig && (inR b.roots 0 4 && (decide (b.nodes.length≤8) && (decide (b.sites.length≤4) && (inR b.edges 0 8 && (dg b.outer && dg (b.inner.map Wr.name))))))
def fU (sig:List Ctl) (b:Big) (p:Int):Bool:=dw sig b p b.nodes.length
def gz (b:Big) (x:Wr):Bool:=fw b x.link
def aH (sig:List Ctl) (b:Big):Bool:=gr sig b && ((List.range b.nodes.length).all (fW sig b) && (b.sites.all (fU sig b) && b.inner.all (gz b)))
theorem jR (sig:List Ctl) (b:Big) (i:Nat) (h:i<b.nodes.length):fW sig b i=(inR (b.nodes[i]).control 0 ((sig.length:Int) - 1) && (dw sig b (b.nodes[i]).parent i && (decide (((b.nodes[i]).links.length:Int)=(qf sig (b.nodes[i]).control).ports) && !((b.nodes[i]).links.any (fun l=>!(fw b l)))))):=by
 unfold fW;rw [List.getElem?_eq_getElem h,ig,Bool.not_not]
theorem nV {sig:List Ctl} {b:Big} {n:Nat} (h:(List.range n).all (fW sig b)=true):AA sig b n:=by
 intro i hi hn
 have:=List.all_eq_true.1 h i (List.mem_range.2 (by omega))
 rw [jR sig b i hi] at this
 have:=bB (Bool.and_eq_true_iff.1 this).1
 omega
theorem fq {l:List ByteArray} (h:dg l=true):l.length≤16:=by
 unfold dg at h
 have:=(Bool.and_eq_true_iff.1 h).2
 simp at this;omega
theorem eZ {sig:List Ctl} {b:Big} (h:gr sig b=true):iR sig=true∧inR b.roots 0 4=true∧b.nodes.length≤8∧b.sites.length≤4∧inR b.edges 0 8=true∧dg b.outer=true∧dg (b.inner.map Wr.name)=true:=by
 unfold gr at h
 simp only [Bool.and_eq_true,decide_eq_true_eq] at h
 obtain ⟨a,b,c,d,e,f,g⟩:=h
 exact ⟨a,b,c,d,e,f,g⟩
theorem dj {sig:List Ctl} {b:Big} (h:aH sig b=true):gr sig b=true∧(List.range b.nodes.length).all (fW sig b)=true∧b.sites.all (fU sig b)=true∧b.inner.all (gz b)=true:=by
 unfold aH at h
 simp only [Bool.and_eq_true] at h
 exact h
theorem cq {sig:List Ctl} {b:Big} (h:gr sig b=false):aH sig b=false:=by unfold aH;rw [h];rfl
theorem gT {sig:List Ctl} {b:Big} (i:Nat) (hi:i<b.nodes.length) (h:fW sig b i=false):aH sig b=false:=by unfold aH;rw [aG _ _ i hi h];simp
end Go.Proofs.YtnobdioccfeokaaGreatDoor
namespace Go.Proofs.YtnobdioccfeokaaGreatDoor
open Go.RowKit
set_option linter.unusedVariables false
set_option linter.unusedSimpArgs false
theorem rz {n:Nat} (h:n≤100000000):I64 (n:Int):=by unfold I64;omega
attribute [local irreducible] inR cJ cN
set_option maxRecDepth 100000 in
set_option maxHeartbeats 1600000 in
theorem qN (lo hi:Nat) (cs:List Value) (b:Big) (p:Int) (w:World) (h:r9 lo hi w cs b) (hlen:b.nodes.length≤1048576) :
 Calls Tryz.prog 217 #[.agg cs.toArray,.int .i64 p] w fun e w'=>∃v,e=.returned v∧SlV 1 iY w.heap.size w'.heap.size w' v (dJ b p)∧Ext w w':=by
 obtain ⟨v1,v2,v4,v5,rfl,r1,r2,hN,hS,hO,hI⟩:=h
 obtain ⟨aan,kn,rfl,n1,n2,n3,n4⟩:=hN
 unfold maxLen at n2
 obtain ⟨W0,hW0,hbx,hx0,hz⟩:=lU w [.int .i64 b.roots,.slice aan b.nodes.length kn,v2,.int .i64 b.edges,v4,v5] 45
 have pn:=(hbx 1 _ rfl).1
 have hzz:w.heap.size<W0.heap.size:=by omega
 clear hz hbx
 obtain ⟨i0,hi0,hz0,hz1,hz2⟩:=info_parts wt
 have hrow0:kk 1 iY 3 W0.heap.size (W0.alloc (.cells #[] 3)) (.slice (some ⟨W0.heap.size,0,none⟩) 0 0) []:=kk.made (Nat.le_refl _)
 go_enter Tryz.func217,Tryz.ntmps217
 go_wp2
 go_loopw [5,6] (fun v c wr=>∃i:Nat,c=.int .i64 i∧i≤b.nodes.length∧kk 1 iY 3 W0.heap.size wr v (idxOf (sf b p) i)∧Ext W0 wr) (fun _ c _=>b.nodes.length - (intOf c).toNat)
 case atStart=>exact ⟨0,rfl,Nat.zero_le _,hrow0,xw⟩
 case round=>
  obtain ⟨i,rfl,hi',hrow,hx⟩:=hrel
  replace pn:=hx.keep pn
  have hX:Ext w wr:=xw
  by_cases hlt:i<b.nodes.length
  ·have HF:=Lib.hid (F5 b p i hlt)
   rcases n4 with n4|⟨bn,on,rfl,nb1,nb2,n4⟩
   ·rw [n4] at hlt;simp at hlt
   obtain ⟨cs,hl,⟨nv,rfl,e1,e2,e3⟩,hc⟩:=n4 i hlt
   have q0:=hX.keep (hc 0 _ rfl)
   have q1:=hX.keep (hc 1 _ rfl)
   rw [Nat.add_zero] at q0
   clear hc n4
   have hsz:=Below.size hx
   have hL:=fZ (sf b p) i
   by_cases hp:(b.nodes[i]).parent=p
   ·have ep:((b.nodes[i]).parent == p)=true:=beq_iff_eq.2 hp
    have HT:=Lib.hid (dI (f:=sf b p) (n:=i) (by rw [HF.out];simpa using hp))
    clear hp
    go_wp2_with (at_builtin;refine fB iY.keeps rfl (.tmp 23) (.tmp 25) 23 rfl (W0.heap.size) 3 i0 _ 8 Tryz.underlying23 hi0 hz0 hz1 hz2 rfl (by decide) _ _ (by rfl) (hrow.ext iY.keeps xw) ⟨wr.heap.size,0,none⟩ 1 [.int .i64 i] rfl rfl (nQ (by simp)) (by simp [Value.oneCell']) (W0.heap.size) (W0.heap.size) (Nat.le_refl _) (by first|omega|(simp;omega)) (fun g hg=>.inr (hrow.block g hg).1) ((i:Int)) ⟨rfl,rz (by omega)⟩ (by first|omega|(simp;omega)) (by decide) (by first|omega|(simp;omega)) ?_;intro v3 w3 row3 ext3 gro3 own3)
    have hx3:=ext3 W0 xw (Nat.le_refl _)
    go_roundw
    case rel=>exact ⟨i+1,rfl,by omega,by rw [HT.out];exact row3,xw⟩
    ·simp only [intOf];omega
   ·have ep:((b.nodes[i]).parent == p)=false:=beq_eq_false_iff_ne.2 hp
    have HT:=Lib.hid (eY (f:=sf b p) (n:=i) (by rw [HF.out];simpa using hp))
    clear hp
    go_wp2
    go_roundw
    case rel=>exact ⟨i+1,rfl,by omega,by rw [HT.out];exact hrow,xw⟩
    ·simp only [intOf];omega
  ·have e:i=b.nodes.length:=by omega
   subst e
   go_wp2
   go_ret
   exact ⟨_,rfl,hrow.toSlV iY.widens (by omega),hX⟩
set_option maxRecDepth 100000 in
set_option maxHeartbeats 1600000 in
theorem pY (lo hi:Nat) (cs:List Value) (b:Big) (p:Int) (w:World) (h:r9 lo hi w cs b) (hlen:b.sites.length≤1048576) :
 Calls Tryz.prog 223 #[.agg cs.toArray,.int .i64 p] w fun e w'=>∃v,e=.returned v∧SlV 1 iY w.heap.size w'.heap.size w' v (cC b p)∧Ext w w':=by
 obtain ⟨v1,v2,v4,v5,rfl,r1,r2,hN,hS,hO,hI⟩:=h
 obtain ⟨aas,ks,rfl,s1,s2,s3,s4⟩:=hS
 unfold maxLen at s2
 obtain ⟨W0,hW0,hbx,hx0,hz⟩:=lU w [.int .i64 b.roots,v1,.slice aas b.sites.length ks,.int .i64 b.edges,v4,v5] 45
 have ps:=(hbx 2 _ rfl).1
 have hzz:w.heap.size<W0.heap.size:=by omega
 clear hz hbx
 obtain ⟨i0,hi0,hz0,hz1,hz2⟩:=info_parts wt
 have hrow0:kk 1 iY 3 W0.heap.size (W0.alloc (.cells #[] 3)) (.slice (some ⟨W0.heap.size,0,none⟩) 0 0) []:=kk.made (Nat.le_refl _)
 go_enter Tryz.func223,Tryz.ntmps223
 go_wp2
 go_loopw [5,6] (fun v c wr=>∃i:Nat,c=.int .i64 i∧i≤b.sites.length∧kk 1 iY 3 W0.heap.size wr v (idxOf (ju b p) i)∧Ext W0 wr) (fun _ c _=>b.sites.length - (intOf c).toNat)
 case atStart=>exact ⟨0,rfl,Nat.zero_le _,hrow0,xw⟩
 case round=>
  obtain ⟨i,rfl,hi',hrow,hx⟩:=hrel
  replace ps:=hx.keep ps
  have hX:Ext w wr:=xw
  by_cases hlt:i<b.sites.length
  ·have HF:=Lib.hid (Dw b p i hlt)
   rcases s4 with s4|⟨bs,os,rfl,sb1,sb2,s4⟩
   ·rw [s4] at hlt;simp at hlt
   obtain ⟨cs,hl,⟨rfl,e1⟩,hc⟩:=s4 i hlt
   have q0:=hX.keep (hc 0 _ rfl)
   rw [Nat.mul_one,Nat.add_zero] at q0
   clear hc s4
   have hsz:=Below.size hx
   have hL:=fZ (ju b p) i
   by_cases hp:b.sites[i]=p
   ·have ep:(b.sites[i] == p)=true:=beq_iff_eq.2 hp
    have HT:=Lib.hid (dI (f:=ju b p) (n:=i) (by rw [HF.out];simpa using hp))
    clear hp
    go_wp2_with (at_builtin;refine fB iY.keeps rfl (.tmp 22) (.tmp 24) 23 rfl (W0.heap.size) 3 i0 _ 8 Tryz.underlying23 hi0 hz0 hz1 hz2 rfl (by decide) _ _ (by rfl) (hrow.ext iY.keeps xw) ⟨wr.heap.size,0,none⟩ 1 [.int .i64 i] rfl rfl (nQ (by simp)) (by simp [Value.oneCell']) (W0.heap.size) (W0.heap.size) (Nat.le_refl _) (by first|omega|(simp;omega)) (fun g hg=>.inr (hrow.block g hg).1) ((i:Int)) ⟨rfl,rz (by omega)⟩ (by first|omega|(simp;omega)) (by decide) (by first|omega|(simp;omega)) ?_;intro v3 w3 row3 ext3 gro3 own3)
    have hx3:=ext3 W0 xw (Nat.le_refl _)
    go_roundw
    case rel=>exact ⟨i+1,rfl,by omega,by rw [HT.out];exact row3,xw⟩
    ·simp only [intOf];omega
   ·have ep:(b.sites[i] == p)=false:=beq_eq_false_iff_ne.2 hp
    have HT:=Lib.hid (eY (f:=ju b p) (n:=i) (by rw [HF.out];simpa using hp))
    clear hp
    go_wp2
    go_roundw
    case rel=>exact ⟨i+1,rfl,by omega,by rw [HT.out];exact hrow,xw⟩
    ·simp only [intOf];omega
  ·have e:i=b.sites.length:=by omega
   subst e
   go_wp2
   go_ret
   exact ⟨_,rfl,hrow.toSlV iY.widens (by omega),hX⟩
end Go.Proofs.YtnobdioccfeokaaGreatDoor
namespace Go.Proofs.YtnobdioccfeokaaGreatDoor
open Go.RowKit
set_option linter.unusedVariables false
set_option linter.unusedSimpArgs false
theorem IN:∃i,Tryz.prog.info? 138=some i∧i.zero=some (.agg #[.int .i64 0,.int .i64 0])∧i.size=2∧i.bytes=16:=info_parts Dc
theorem oq (b:Big) (l:Int):∀(n:Nat),n≤b.nodes.length→(∀i (h:i<b.nodes.length),(b.nodes[i]).links.length≤1000)→(dK b l n).length≤n * 1000:=by
 intro n
 induction n with
 | zero=>intro _ _;simp [dK]
 | succ n ih=>
  intro hn hl
  rw [fY b l n (by omega),List.length_append]
  have h1:=ih (by omega) hl
  have h2:=oX (b.nodes[n]).links l n (b.nodes[n]).links.length
  have h3:=hl n (by omega)
  omega
attribute [local irreducible] inR cJ cN
set_option maxRecDepth 100000 in
set_option maxHeartbeats 3200000 in
theorem pQ (lo hi:Nat) (cs:List Value) (b:Big) (l:Int) (w:World) (h:r9 lo hi w cs b) (hlen:b.nodes.length≤1000) (hlinks:∀i (h:i<b.nodes.length),(b.nodes[i]).links.length≤1000) :
 Calls Tryz.prog 146 #[.agg cs.toArray,.int .i64 l] w fun e w'=>∃v,e=.returned v∧SlV 2 iW w.heap.size w'.heap.size w' v (aD b l)∧Ext w w':=by
 obtain ⟨v1,v2,v4,v5,rfl,r1,r2,hN,hS,hO,hI⟩:=h
 obtain ⟨aan,kn,rfl,n1,n2,n3,n4⟩:=hN
 unfold maxLen at n2
 obtain ⟨W0,hW0,hbx,hx0,hz⟩:=lU w [.int .i64 b.roots,.slice aan b.nodes.length kn,v2,.int .i64 b.edges,v4,v5] 45
 have pn:=(hbx 1 _ rfl).1
 have hzz:w.heap.size<W0.heap.size:=by omega
 clear hz hbx
 obtain ⟨i0,hi0,hz0,hz1,hz2⟩:=IN
 have hrow0:kk 2 iW 138 W0.heap.size (W0.alloc (.cells #[] 138)) (.slice (some ⟨W0.heap.size,0,none⟩) 0 0) []:=kk.made (Nat.le_refl _)
 go_enter Tryz.func146,Tryz.ntmps146
 go_wp2
 go_loopw [5,6,7] (fun v c _ wr=>∃i:Nat,c=.int .i64 i∧i≤b.nodes.length∧kk 2 iW 138 W0.heap.size wr v (dK b l i)∧Ext W0 wr) (fun _ c _ _=>b.nodes.length - (intOf c).toNat)
 case atStart=>exact ⟨0,rfl,Nat.zero_le _,hrow0,xw⟩
 case round=>
  obtain ⟨i,rfl,hi',hrow,hx⟩:=hrel
  have pn1:=hx.keep pn
  have hX:Ext w wr:=hx0.trans hx
  by_cases hlt:i<b.nodes.length
  ·have HPS:=Lib.hid (fY b l i hlt)
   have hll:=hlinks i hlt
   have hpl:=oq b l i hi' hlinks
   rcases n4 with n4|⟨bn,on,rfl,nb1,nb2,n4⟩
   ·rw [n4] at hlt;simp at hlt
   obtain ⟨cs,hl,hnp,hc⟩:=n4 i hlt
   generalize b.nodes[i]=nd at hnp HPS hll
   obtain ⟨nc,np,nl⟩:=nd
   obtain ⟨nv,rfl,e1,e2,e3⟩:=hnp
   have q2w:=hc 2 _ rfl
   have q2:=hX.keep q2w
   obtain ⟨la,lk,rfl,y1,y2,y3,y4⟩:=e3
   dsimp only at *
   unfold maxLen at y2
   clear hc n4
   go_wp2
   go_loopw [5,7] (fun v c wi=>∃k:Nat,c=.int .i64 k∧k≤nl.length∧kk 2 iW 138 W0.heap.size wi v (dK b l i++cI nl l i k)∧Ext W0 wi) (fun _ c _=>nl.length - (intOf c).toNat)
   case atStart=>exact ⟨0,rfl,Nat.zero_le _,by simpa [cI] using hrow,hx⟩
   case round=>
    obtain ⟨k,rfl,hk',hrowi,hxi⟩:=hrel
    have pn2:=hxi.keep pn
    have hXi:Ext w wr:=hx0.trans hxi
    have q3:=hXi.keep q2w
    by_cases hkl:k<nl.length
    ·have HY:=Lib.hid (li (l:=l) (i:=i) hkl)
     have HN:=Lib.hid (mW (l:=l) (i:=i) hkl)
     rcases y4 with y4|⟨b3,o3,rfl,yb1,yb2,y4⟩
     ·rw [y4] at hkl;simp at hkl
     obtain ⟨es,el,⟨rfl,f1⟩,hes⟩:=y4 k hkl
     have t0:=hXi.keep (hes 0 _ rfl)
     rw [Nat.mul_one,Nat.add_zero] at t0
     clear hes y4
     have hsz:=Below.size hxi
     have hL:=oX nl l i k
     have hLL:(dK b l i++cI nl l i k).length=(dK b l i).length+(cI nl l i k).length:=List.length_append
     have hL2:(dK b l i++cI nl l i k).length≤2000000:=by omega
     clear hLL
     by_cases hp:nl[k]=l
     ·have ep:(nl[k] == l)=true:=beq_iff_eq.2 hp
      have HT:=Lib.hid (HY.out hp)
      clear hp
      go_wp2_with (at_builtin;refine fB iW.keeps rfl (.tmp 38) (.tmp 42) 25 rfl (W0.heap.size) 138 i0 _ 16 Tryz.underlying25 hi0 hz0 hz1 hz2 rfl (by decide) _ _ (by rfl) (hrowi.ext iW.keeps xw) ⟨wr.heap.size,0,none⟩ 1 [.int .i64 i,.int .i64 k] rfl rfl (nQ (by simp)) (by simp [Value.oneCell']) (W0.heap.size) (W0.heap.size) (Nat.le_refl _) (by first|omega|(simp;omega)) (fun g hg=>.inr (hrowi.block g hg).1) (((i:Int),(k:Int))) ⟨rfl,rz (by omega),rz (by omega)⟩ (by first|omega|(simp;omega)) (by decide) (by first|omega|(simp;omega)) ?_;intro v3 w3 row3 ext3 gro3 own3)
      have hx3:=ext3 W0 xw (Nat.le_refl _)
      go_roundw
      case rel=>exact ⟨k+1,rfl,by omega,by rw [HT.out,← List.append_assoc];exact row3,xw⟩
      ·simp only [intOf];omega
     ·have ep:(nl[k] == l)=false:=beq_eq_false_iff_ne.2 hp
      have HT:=Lib.hid (HN.out hp)
      clear hp
      go_wp2
      go_roundw
      case rel=>exact ⟨k+1,rfl,by omega,by rw [HT.out];exact hrowi,xw⟩
      ·simp only [intOf];omega
    ·have e:k=nl.length:=by omega
     subst e
     go_wp2
     go_roundw
     case rel=>exact ⟨i+1,rfl,by omega,by rw [HPS.out];exact hrowi,xw⟩
     ·simp only [intOf];omega
  ·have e:i=b.nodes.length:=by omega
   subst e
   go_wp2
   go_ret
   exact ⟨_,rfl,hrow.toSlV iW.widens (by omega),hX⟩
end Go.Proofs.YtnobdioccfeokaaGreatDoor
namespace Go.Proofs.YtnobdioccfeokaaGreatDoor
open Go.RowKit
set_option linter.unusedVariables false
set_option linter.unusedSimpArgs false
def i4 (b:Big) (r:Nat):Bool:=!(decide ((dJ b (-1 - r)).length=0)) && decide ((cC b (-1 - r)).length=0)
def dV (b:Big) (i:Nat):Bool:=decide ((cC b i).length≤1)
def dH (b:Big) (l:Nat):Bool:=!(pU b l)
def fM (b:Big) (n:Nat):Bool:=if -b.roots+n<0 then i4 b (-1 - (-b.roots+n)).toNat else dV b (-b.roots+n).toNat
def ak (b:Big):Nat:=(b.edges+b.outer.length).toNat
def cA (b:Big):Bool:=(decide (b.inner.length=0) && !(decide (b.roots=0))) && ((List.range b.roots.toNat).all (i4 b) && ((List.range b.nodes.length).all (dV b) && (List.range (ak b)).all (dH b)))
structure wy (b:Big):Prop where
 roots:inR b.roots 0 4=true
 edges:inR b.edges 0 8=true
 nodes:b.nodes.length≤1000
 sites:b.sites.length≤1000
 outer:b.outer.length≤1000
 inner:b.inner.length≤1048576
 links:∀i (h:i<b.nodes.length),(b.nodes[i]).links.length≤1000
theorem aC (f:Nat→Bool) (n:Nat):(List.range n).all f=true↔∀i,i<n→f i=true:=by
 rw [List.all_eq_true];constructor
 ·intro h i hi;exact h i (List.mem_range.2 hi)
 ·intro h i hi;exact h i (List.mem_range.1 hi)
theorem vX (b:Big) (h:0≤b.roots):(List.range (b.roots.toNat+b.nodes.length)).all (fM b)=((List.range b.roots.toNat).all (i4 b) && (List.range b.nodes.length).all (dV b)):=by
 rw [Bool.eq_iff_iff,Bool.and_eq_true,aC,aC,aC]
 constructor
 ·intro hh
  refine ⟨fun r hr=>?_,fun i hi=>?_⟩
  ·have:=hh (b.roots.toNat - 1 - r) (by omega)
   unfold fM at this
   rw [if_pos (by omega)] at this
   have e:(-1 - (-b.roots+((b.roots.toNat - 1 - r:Nat):Int))).toNat=r:=by omega
   rwa [e] at this
  ·have:=hh (b.roots.toNat+i) (by omega)
   unfold fM at this
   rw [if_neg (by omega)] at this
   have e:(-b.roots+((b.roots.toNat+i:Nat):Int)).toNat=i:=by omega
   rwa [e] at this
 ·rintro ⟨h1,h2⟩ n hn
  unfold fM
  split
  ·exact h1 _ (by omega)
  ·exact h2 _ (by omega)
theorem vw {b:Big} (n:Nat) (hn:n<b.roots.toNat) (hp:i4 b n=false):cA b=false:=by
 unfold cA;rw [aG _ _ n hn hp];simp
theorem vn {b:Big} (n:Nat) (hn:n<b.nodes.length) (hp:dV b n=false):cA b=false:=by
 unfold cA;rw [aG _ _ n hn hp];simp
theorem pG {b:Big} (h:¬b.inner.length=0∨b.roots=0):cA b=false:=by
 unfold cA
 rcases h with h|h
 ·rw [decide_eq_false h];rfl
 ·rw [decide_eq_true h];simp
theorem zt {b:Big} (h1:b.inner.length=0) (h2:¬b.roots=0) (h3:(List.range b.roots.toNat).all (i4 b)=true) (h4:(List.range b.nodes.length).all (dV b)=true) (h5:(List.range (ak b)).all (dH b)=true):cA b=true:=by
 unfold cA;rw [decide_eq_true h1,decide_eq_false h2,h3,h4,h5];rfl
theorem tO {sig:List Ctl} (h:iR sig=true) (k:Int) (h0:0≤k) (h1:k<sig.length):(qf sig k).ports≤3:=by
 obtain ⟨m,rfl⟩:=Int.eq_ofNat_of_zero_le h0
 rw [iD sig m (by omega)]
 unfold iR at h
 have h2:=(aC _ _).1 (Bool.and_eq_true_iff.1 h).2 m (by omega)
 rw [qP sig m (by omega)] at h2
 have h3:=(Bool.and_eq_true_iff.1 h2).1
 unfold IP at h3
 simp only [Bool.and_eq_true] at h3
 have:=bB h3.2.1
 omega
theorem bw {sig:List Ctl} {b:Big} (h:aH sig b=true):wy b:=by
 obtain ⟨h1,h2,_,_⟩:=dj h
 obtain ⟨a,r,c,d,e,f,g⟩:=eZ h1
 refine ⟨r,e,by omega,by omega,by have:=fq f;omega,by have:=fq g;simp at this;omega,fun i hi=>?_⟩
 have h3:=(aC _ _).1 h2 i hi
 rw [jR sig b i hi] at h3
 simp only [Bool.and_eq_true,decide_eq_true_eq] at h3
 have hc:=bB h3.1
 have:=tO a _ hc.1 (by omega)
 omega
end Go.Proofs.YtnobdioccfeokaaGreatDoor
namespace Go.Proofs.YtnobdioccfeokaaGreatDoor
open Go.RowKit
set_option linter.unusedVariables false
set_option linter.unusedSimpArgs false
attribute [local irreducible] inR cJ cN dJ cC aD nF pU i4 dV dH fM
end Go.Proofs.YtnobdioccfeokaaGreatDoor
namespace Go.Proofs.YtnobdioccfeokaaGreatDoor
open Go.RowKit
set_option linter.unusedVariables false
set_option linter.unusedSimpArgs false
def d8 (s:Srt) (b:Big) (p:Int):List Int:=if p<0 then s.tops else s.nest.getD (dF b p).control.toNat []
def fp (l:List Int) (n:Int):Bool:=l.any (fun x=>x == n)
attribute [local irreducible] inR
end Go.Proofs.YtnobdioccfeokaaGreatDoor
namespace Go.Proofs.YtnobdioccfeokaaGreatDoor
open Go.RowKit
set_option linter.unusedVariables false
set_option linter.unusedSimpArgs false
theorem e9 {sig:List Ctl} {b:Big} (h:aH sig b=true) (i:Nat) (hi:i<b.nodes.length):0≤(b.nodes[i]).control∧(b.nodes[i]).control<sig.length∧dw sig b (b.nodes[i]).parent i=true∧((b.nodes[i]).links.length:Int)=(qf sig (b.nodes[i]).control).ports∧∀l∈(b.nodes[i]).links,fw b l=true:=by
 have h3:=(aC _ _).1 (dj h).2.1 i hi
 rw [jR sig b i hi] at h3
 simp only [Bool.and_eq_true,decide_eq_true_eq] at h3
 have hc:=bB h3.1
 refine ⟨hc.1,by omega,h3.2.1,h3.2.2.1,fun l hl=>?_⟩
 have h4:=h3.2.2.2
 simp only [Bool.not_eq_true',List.any_eq_false] at h4
 simpa using h4 l hl
theorem iE {sig:List Ctl} {b:Big} (h:aH sig b=true) (i:Nat) (hi:i<b.nodes.length) : -b.roots≤(b.nodes[i]).parent∧(b.nodes[i]).parent<i:=by
 obtain ⟨_,_,hu,_⟩:=e9 h i hi
 have hr:inR b.roots 0 4=true:=(eZ (dj h).1).2.1
 have:=bB hr
 unfold dw at hu
 split at hu
 ·simp only [decide_eq_true_eq] at hu;omega
 ·simp only [Bool.and_eq_true,decide_eq_true_eq] at hu;omega
def kP (b:Big) (f:Int→Bool):Nat→Int→Bool
 | 0,_=>false
 | n+1,p=>if p<0 then false else f p || kP b f n (dF b p).parent
def jW (b:Big) (f:Int→Bool) (p:Int):Bool:=kP b f (p.toNat+1) p
theorem yp {sig:List Ctl} {b:Big} (h:aH sig b=true) (f:Int→Bool):∀(m n:Nat) (p:Int),p<b.nodes.length→p.toNat<m→p.toNat<n→kP b f m p=kP b f n p:=by
 intro m
 induction m with
 | zero=>intro n p _ hf;omega
 | succ m ih=>
  intro n p hp hf hg
  cases n with
  | zero=>omega
  | succ n=>
   unfold kP
   by_cases hn:p<0
   ·rw [if_pos hn,if_pos hn]
   ·rw [if_neg hn,if_neg hn]
    obtain ⟨k,rfl⟩:=Int.eq_ofNat_of_zero_le (show 0≤p by omega)
    have hl:k<b.nodes.length:=by omega
    have:=iE h k hl
    rw [aB b k hl]
    congr 1
    by_cases hq:(b.nodes[k]).parent<0
    ·cases m <;> cases n <;> simp [kP,hq]
    ·exact ih n _ (by omega) (by omega) (by omega)
theorem ee (b:Big) (f:Int→Bool) {p:Int} (h:p<0):jW b f p=false:=by
 unfold jW kP;rw [if_pos h]
theorem fg {sig:List Ctl} {b:Big} (h:aH sig b=true) (f:Int→Bool) (k:Nat) (hk:k<b.nodes.length):jW b f (k:Int)=(f k || jW b f (b.nodes[k]).parent):=by
 have hp:=iE h k hk
 have e:jW b f (k:Int)=(f k || kP b f k (b.nodes[k]).parent):=by
  unfold jW
  rw [show ((k:Int).toNat+1)=k+1 by omega,kP,if_neg (by omega),aB b k hk]
 rw [e]
 congr 1
 by_cases hq:(b.nodes[k]).parent<0
 ·rw [ee b f hq]
  cases k with
  | zero=>rfl
  | succ k=>rw [kP,if_pos hq]
 ·exact yp h f _ _ _ (by omega) (by omega) (by omega)
theorem t8 {sig:List Ctl} {b:Big} (h:aH sig b=true) {f g:Int→Bool} (hfg:∀k:Nat,k<b.nodes.length→f k=g k):∀(n:Nat) (p:Int),p<n→p<b.nodes.length→jW b f p=jW b g p:=by
 intro n
 induction n with
 | zero=>intro p hp _;rw [ee b f (by omega),ee b g (by omega)]
 | succ n ih=>
  intro p hp hl
  by_cases hq:p<0
  ·rw [ee b f hq,ee b g hq]
  ·obtain ⟨k,rfl⟩:=Int.eq_ofNat_of_zero_le (show 0≤p by omega)
   have hk:k<b.nodes.length:=by omega
   have:=iE h k hk
   rw [fg h f k hk,fg h g k hk,hfg k hk,ih _ (by omega) (by omega)]
def il (b:Big) (ns:List Int) (p:Int):Bool:=jW b (fp ns) p
def sa (sig:List Ctl) (b:Big) (p:Int):Bool:=decide ((qf sig (dF b p).control).kind=1)
def kZ (sig:List Ctl) (b:Big) (p:Int):Bool:=jW b (sa sig b) p
def jV (sig:List Ctl) (b:Big) (rs:List Int):Bool:=rs.all fun p=>!kZ sig b p
structure Mat where
 nodes:List Int
 roots:List Int
def atI (l:List Int) (i:Int):Int:=l.getD i.toNat 0
def Hu (r:Big) (m:Mat) (i:Nat):Int:=if 0≤(dF r i).parent then atI m.nodes (dF r i).parent else atI m.roots (-1 - (dF r i).parent)
def uz (a:Big) (ns:List Int) (i:Nat):Bool:=inR (atI ns i) 0 (a.nodes.length - 1) && !fp (ns.take i) (atI ns i)
def vz (r a:Big) (ns:List Int) (i:Nat):Bool:=decide ((dF a (atI ns i)).control=(dF r i).control)
def pR (r a:Big) (m:Mat) (i:Nat):Bool:=decide ((dF a (atI m.nodes i)).parent=Hu r m i)
def k8 (r a:Big) (m:Mat) (i:Nat):Bool:=!(decide ((cC r i).length=0)) || (dJ a (atI m.nodes i)).all (fp m.nodes)
def jN (a:Big) (ns:List Int) (p:Int):Bool:=inR p (-a.roots) (a.nodes.length - 1) && !il a ns p
def gO (a:Big) (ns:List Int) (q:Int × Int):Int:=atI (dF a (atI ns q.1)).links q.2
def mC (r a:Big) (ns:List Int) (l:Int):Int:=match aD r l with | []=>-1|q :: _=>gO a ns q
def ic (r a:Big) (ns:List Int) (l:Nat):Bool:=(aD r l).all (fun q=>decide (gO a ns q=mC r a ns l)) && (!(decide ((l:Int)<r.edges)) || (decide (mC r a ns l<a.edges) && decide ((aD a (mC r a ns l)).length=(aD r l).length)))
def fX (r a:Big) (ns:List Int):Bool:=(List.range (ak r)).all (ic r a ns)
def bi (r a:Big) (ns:List Int):List Int:=(List.range (ak r)).map (fun (l:Nat)=>mC r a ns l)
def sd (r a:Big) (ns:List Int):Bool:=decide (ns.length=r.nodes.length) && ((List.range ns.length).all (uz a ns) && (List.range ns.length).all (vz r a ns))
def fH (r a:Big) (m:Mat):Bool:=m.roots.all (jN a m.nodes) && decide ((m.roots.length:Int)=r.roots)
def er (r a:Big) (m:Mat):Bool:=(sd r a m.nodes && fH r a m) && ((List.range m.nodes.length).all (pR r a m) && ((List.range m.nodes.length).all (k8 r a m) && fX r a m.nodes))
def bm (r:Big) (l:Int) (k i:Nat):List (Int × Int):=dK r l k++cI (dF r k).links l k i
theorem nq (r:Big) (l:Int):bm r l 0 0 = []:=rfl
theorem jZ (r:Big) (l:Int) (k:Nat) (hk:k<r.nodes.length):bm r l (k+1) 0=bm r l k (r.nodes[k]).links.length:=by
 unfold bm
 rw [fY r l k hk,aB r k hk]
 simp [cI]
theorem jb (r:Big) (l:Int) (k i:Nat) (hk:k<r.nodes.length) (hi:i<(r.nodes[k]).links.length) (h:(r.nodes[k]).links[i]=l):bm r l k (i+1)=bm r l k i++[((k:Int),(i:Int))]:=by
 unfold bm
 rw [aB r k hk,li hi h,List.append_assoc]
theorem qG (r:Big) (l:Int) (k i:Nat) (hk:k<r.nodes.length) (hi:i<(r.nodes[k]).links.length) (h:¬(r.nodes[k]).links[i]=l):bm r l k (i+1)=bm r l k i:=by
 unfold bm
 rw [aB r k hk,mW hi h]
theorem jg (r:Big) (l:Int):bm r l r.nodes.length 0=aD r l:=by unfold bm aD;simp [cI]
theorem jl (r:Big) (l:Int) (k i:Nat) (hk:k<r.nodes.length) (hi:i≤(r.nodes[k]).links.length):∃t,aD r l=bm r l k i++t:=by
 have step:∀n j,j+n=(r.nodes[k]).links.length→∃t,cI (r.nodes[k]).links l k (r.nodes[k]).links.length=cI (r.nodes[k]).links l k j++t:=by
  intro n
  induction n with
  | zero=>intro j hj;exact ⟨[],by rw [← hj];simp⟩
  | succ n ih=>
   intro j hj
   obtain ⟨t,ht⟩:=ih (j+1) (by omega)
   by_cases h:(r.nodes[k]).links[j]'(by omega)=l
   ·rw [li (by omega) h] at ht;exact ⟨_,by rw [ht,List.append_assoc]⟩
   ·rw [mW (by omega) h] at ht;exact ⟨t,ht⟩
 have all:∀n m,m+n=r.nodes.length→∃t,dK r l r.nodes.length=dK r l m++t:=by
  intro n
  induction n with
  | zero=>intro m hm;exact ⟨[],by rw [← hm];simp⟩
  | succ n ih=>
   intro m hm
   obtain ⟨t,ht⟩:=ih (m+1) (by omega)
   rw [fY r l m (by omega),List.append_assoc] at ht
   exact ⟨_,ht⟩
 obtain ⟨t1,h1⟩:=step _ i (by omega:i+((r.nodes[k]).links.length - i)=_)
 obtain ⟨t2,h2⟩:=all _ (k+1) (by omega:k+1+(r.nodes.length - (k+1))=_)
 rw [fY r l k hk,h1] at h2
 exact ⟨t1++t2,by unfold aD bm;rw [h2,aB r k hk];simp⟩
def jr (a:Big) (ns:List Int) (ps:List (Int × Int)):Int:=match ps with | []=>-1|q :: _=>gO a ns q
theorem BE (r a:Big) (ns:List Int) (l:Int):mC r a ns l=jr a ns (aD r l):=rfl
def iF (r a:Big) (ns:List Int) (k i:Nat):List Int:=(List.range (ak r)).map fun (l:Nat)=>jr a ns (bm r l k i)
def gV (r a:Big) (ns:List Int) (k i:Nat):Prop:=∀l:Nat,l<ak r→∀q∈bm r l k i,gO a ns q=jr a ns (bm r l k i)
theorem Bu (r a:Big) (ns:List Int) (k i:Nat):(iF r a ns k i).length=ak r:=by simp [iF]
theorem nX (r a:Big) (ns:List Int) (k i l:Nat) (h:l<(iF r a ns k i).length):(iF r a ns k i)[l]=jr a ns (bm r l k i):=by simp [iF]
theorem yV (r a:Big) (ns:List Int):iF r a ns 0 0=List.replicate (ak r) (-1):=by
 apply List.ext_getElem
 ·simp [iF]
 ·intro i h1 h2;rw [nX,nq,List.getElem_replicate];rfl
theorem yt (r a:Big) (ns:List Int) (k:Nat) (hk:k<r.nodes.length):iF r a ns (k+1) 0=iF r a ns k (r.nodes[k]).links.length:=by
 unfold iF;congr 1;funext l;rw [jZ r l k hk]
theorem x6 (r a:Big) (ns:List Int):gV r a ns 0 0:=fun l _ q hq=>by rw [nq] at hq;cases hq
theorem zc {r a:Big} {ns:List Int} {k:Nat} (hk:k<r.nodes.length) (h:gV r a ns k (r.nodes[k]).links.length):gV r a ns (k+1) 0:=fun l hl q hq=>by
 rw [jZ r l k hk] at hq ⊢;exact h l hl q hq
theorem Ad (r a:Big) (ns:List Int):iF r a ns r.nodes.length 0=bi r a ns:=by
 unfold iF bi;congr 1;funext l;rw [jg];rfl
theorem yF (a:Big) (ns:List Int) (ps:List (Int × Int)) (q:Int × Int):jr a ns (ps++[q])=if ps = [] then gO a ns q else jr a ns ps:=by cases ps <;> simp [jr]
theorem yn {r a:Big} {ns:List Int} {k i l:Nat} (hk:k<r.nodes.length) (hi:i<(r.nodes[k]).links.length) (hl:(r.nodes[k]).links[i]=(l:Int)) (hll:l<ak r)
 (hag:gV r a ns k i) (hno:jr a ns (bm r l k i)<0∨jr a ns (bm r l k i)=gO a ns ((k:Int),(i:Int))) (h0:∀q∈bm r l k i,0≤gO a ns q) :
 iF r a ns k (i+1)=(iF r a ns k i).set l (gO a ns ((k:Int),(i:Int)))∧gV r a ns k (i+1):=by
 have hy:=jb r l k i hk hi hl
 have hn:∀m:Nat,m≠l→bm r m k (i+1)=bm r m k i:=fun m hm=>qG r m k i hk hi (by rw [hl];omega)
 have hem:bm r l k i≠[]→jr a ns (bm r l k i)=gO a ns ((k:Int),(i:Int)):=fun hne=>by
  refine hno.resolve_left (fun h=>?_)
  cases hp:bm r l k i with
  | nil=>exact hne hp
  | cons q t=>
   have:=h0 q (by rw [hp];simp)
   rw [hp] at h
   unfold jr at h
   dsimp only at h
   omega
 have hh:jr a ns (bm r l k (i+1))=gO a ns ((k:Int),(i:Int)):=by
  rw [hy,yF]
  split
  ·rfl
  ·exact hem (by assumption)
 refine ⟨?_,fun m hm q hq=>?_⟩
 ·apply List.ext_getElem
  ·simp [iF]
  ·intro m h1 h2
   rw [nX,List.getElem_set]
   by_cases e:l=m
   ·subst e;rw [if_pos rfl,hh]
   ·rw [if_neg e,nX,hn m (fun h=>e h.symm)]
 ·by_cases e:m=l
  ·subst e
   rw [hh]
   rw [hy] at hq
   rcases List.mem_append.1 hq with hq|hq
   ·rw [hag m hm q hq];exact hem (fun h=>by rw [h] at hq;cases hq)
   ·rw [List.mem_singleton.1 hq]
  ·rw [hn m e] at hq ⊢;exact hag m hm q hq
theorem yO {r a:Big} {ns:List Int} {k i l:Nat} (hk:k<r.nodes.length) (hi:i<(r.nodes[k]).links.length) (hl:(r.nodes[k]).links[i]=(l:Int)) (h0:0≤jr a ns (bm r l k i)) (hne:¬jr a ns (bm r l k i)=gO a ns ((k:Int),(i:Int))):ic r a ns l=false:=by
 obtain ⟨t,ht⟩:=jl r l k (i+1) hk hi
 rw [jb r l k i hk hi hl] at ht
 have hp:bm r l k i≠[]:=fun h=>by rw [h] at h0;simp [jr] at h0
 have hh:mC r a ns l=jr a ns (bm r l k i):=by
  rw [BE,ht]
  cases hq:bm r l k i with
  | nil=>exact absurd hq hp
  | cons q u=>rfl
 unfold ic
 rw [Bool.and_eq_false_iff]
 left
 rw [List.all_eq_false]
 refine ⟨((k:Int),(i:Int)),by rw [ht];simp,?_⟩
 rw [hh]
 simp only [decide_eq_true_eq]
 exact fun h=>hne h.symm
theorem kD {r a:Big} {ns:List Int} {l:Nat} (hl:l<ak r) (h:ic r a ns l=false):fX r a ns=false:=aG _ _ l hl h
theorem oQ {r a:Big} {ns:List Int} (h:gV r a ns r.nodes.length 0) (l:Nat) (hl:l<ak r):(aD r l).all (fun q=>decide (gO a ns q=mC r a ns l))=true:=by
 rw [List.all_eq_true]
 intro q hq
 have:=h l hl q (by rw [jg];exact hq)
 rw [jg] at this
 exact decide_eq_true this
theorem bp {f:Nat→Bool} {n:Nat} {x:Int}:x∈idxOf f n↔∃i:Nat,i<n∧f i=true∧x=i:=by
 unfold idxOf
 simp only [List.mem_map,List.mem_filter,List.mem_range]
 constructor
 ·rintro ⟨i,⟨h1,h2⟩,h3⟩;exact ⟨i,h1,h2,h3.symm⟩
 ·rintro ⟨i,h1,h2,h3⟩;exact ⟨i,⟨h1,h2⟩,h3.symm⟩
theorem cO {l:List Int} {n:Int}:fp l n=true↔n∈l:=by
 unfold fp;rw [List.any_eq_true];constructor
 ·rintro ⟨x,h1,h2⟩;rw [beq_iff_eq] at h2;rw [← h2];exact h1
 ·exact fun h=>⟨n,h,by simp⟩
theorem zg (f:Nat→Bool) (n k:Nat) (h:k<n):fp (idxOf f n) (k:Int)=f k:=by
 rw [Bool.eq_iff_iff,cO,bp]
 constructor
 ·rintro ⟨i,_,h2,h3⟩;rw [show k=i by omega];exact h2
 ·exact fun h2=>⟨k,h,h2,rfl⟩
theorem D2 {sig:List Ctl} {b:Big} (h:aH sig b=true) {p:Int} (hp:p<b.nodes.length):il b (idxOf (fun i=>sa sig b i) b.nodes.length) p=kZ sig b p:=
 t8 h (fun k hk=>zg _ _ k hk) (p.toNat+1) p (by omega) hp
def gu (r a:Big) (m:Mat) (i:Nat):Bool:=vz r a m.nodes i && (pR r a m i && k8 r a m i)
theorem Dy (f g h:Nat→Bool) (n:Nat):(List.range n).all (fun i=>f i && (g i && h i))=((List.range n).all f && ((List.range n).all g && (List.range n).all h)):=by
 rw [Bool.eq_iff_iff]
 simp only [Bool.and_eq_true,aC]
 exact ⟨fun k=>⟨fun i hi=>(k i hi).1,fun i hi=>(k i hi).2.1,fun i hi=>(k i hi).2.2⟩,fun k i hi=>⟨k.1 i hi,k.2.1 i hi,k.2.2 i hi⟩⟩
theorem zK (r a:Big) (m:Mat):er r a m=((decide (m.nodes.length=r.nodes.length) && decide ((m.roots.length:Int)=r.roots)) && ((List.range m.nodes.length).all (uz a m.nodes) && (m.roots.all (jN a m.nodes) && ((List.range m.nodes.length).all (gu r a m) && fX r a m.nodes)))):=by
 have e:(List.range m.nodes.length).all (gu r a m)=((List.range m.nodes.length).all (vz r a m.nodes) && ((List.range m.nodes.length).all (pR r a m) && (List.range m.nodes.length).all (k8 r a m))):=Dy _ _ _ _
 rw [e]
 unfold er sd fH
 rw [Bool.eq_iff_iff]
 simp only [Bool.and_eq_true]
 constructor
 ·rintro ⟨⟨⟨h1,h2,h3⟩,h4,h5⟩,h6,h7,h8⟩;exact ⟨⟨h1,h5⟩,h2,h4,⟨h3,h6,h7⟩,h8⟩
 ·rintro ⟨⟨h1,h5⟩,h2,h4,⟨h3,h6,h7⟩,h8⟩;exact ⟨⟨⟨h1,h2,h3⟩,h4,h5⟩,h6,h7,h8⟩
theorem cL (f:Nat→Bool) (n:Nat):(List.range (n+1)).all f=((List.range n).all f && f n):=by rw [List.range_succ,List.all_append];simp
theorem fC (f:Nat→Bool) (n i:Nat) (h:n≤i) (hi:i≤n) (ha:(List.range i).all f=true):(List.range n).all f=true:=by rw [show n=i by omega];exact ha
def G9 (r a:Big) (ns:List Int) (i:Nat):Bool:=uz a ns i && vz r a ns i
theorem wW (r a:Big) (ns:List Int):sd r a ns=(decide (ns.length=r.nodes.length) && (List.range ns.length).all (G9 r a ns)):=by
 unfold sd G9
 congr 1
 rw [Bool.eq_iff_iff]
 simp only [Bool.and_eq_true,aC]
 exact ⟨fun h i hi=>⟨h.1 i hi,h.2 i hi⟩,fun h=>⟨fun i hi=>(h i hi).1,fun i hi=>(h i hi).2⟩⟩
theorem F9 (r a:Big) (ns:List Int) (i:Nat) (h:i<ns.length) (hr:i<r.nodes.length):G9 r a ns i=((inR ns[i] 0 ((a.nodes.length:Int) - 1) && !fp (ns.take i) ns[i]) && decide ((dF a ns[i]).control=(r.nodes[i]).control)):=by
 unfold G9 uz vz
 rw [show atI ns (i:Int)=ns[i] by unfold atI;simp [h],aB r i hr]
theorem fS {α:Type} (p:α→Bool) (xs:List α) (i:Nat) (h:xs.length≤i) (hp:(xs.take i).all p=true):xs.all p=true:=by rwa [List.take_of_length_le h] at hp
end Go.Proofs.YtnobdioccfeokaaGreatDoor
