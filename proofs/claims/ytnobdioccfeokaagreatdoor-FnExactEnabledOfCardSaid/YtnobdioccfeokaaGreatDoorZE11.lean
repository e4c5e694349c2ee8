/-
  Proved facts that the law leans on.
-/
import Derived.Test.YtnobdioccfeokaaGreatDoorZE5
import Derived.Test.YtnobdioccfeokaaGreatDoorZE8
import Derived.Test.YtnobdioccfeokaaGreatDoorZE10
import Derived.Shelf.Strings.Trim
import Derived.Shelf.Small.Utf8
import Derived.Shelf.Small.Bits
import Derived.Shelf.Small.Strs
import Derived.Shelf.Small.Wraps
import Derived.Shelf.Strconv.Itoa0
import Derived.Shelf.Strings.Search1
import Derived.Shelf.Sort.Plain
import Derived.Shelf.Strings.Runes
import Derived.Shelf.Strings.AsciiSet
import Derived.Shelf.Bits.Mul64
import Derived.Shelf.Unicode.DecodeSlow
import Derived.Shelf.Slices.Turned
import Derived.Shelf.Slices.Equal
import Derived.Ground.Names2Prog
import Derived.Shelf.Slices.CompactI
import Derived.Shelf.Slices.CompactS
import Derived.Shelf.Slices.In.SortNone
import Derived.Shelf.Slices.Empties2
import Derived.Ground.SlgnProg
import Derived.Shelf.SlicesE.Equal
import Derived.Shelf.SlicesE.Compact
import Derived.Ground.SlgfProg
import Derived.Shelf.SlicesE.IndexFunc
import Derived.Shelf.SlicesE.DeleteFunc
import Derived.Test.YtnobdioccfeokaaGreatDoorProg
import Derived.Lib.RowBridge
namespace Go.Proofs
open Go.Shelf
def Tryz.lays189_ren : Go.Shelf.Ren := ⟨fun | 189 => 242 | 125 => 247 | 257 => 267 | 128 => 279 | 129 => 280 | 294 => 299 | 295 => 300 | 296 => 301 | 297 => 302 | 298 => 303 | 299 => 304 | 216 => 305 | 300 => 306 | 301 => 307 | 328 => 327 | 329 => 312 | 330 => 313 | 331 => 328 | 332 => 329 | 215 => 294 | 343 => 343 | n => n, fun | 28 => 23 | 3 => 3 | 46 => 248 | 0 => 0 | 51 => 267 | 53 => 269 | 4 => 4 | 183 => 261 | 182 => 260 | 131 => 229 | 5 => 5 | 9 => 9 | 218 => 297 | 222 => 301 | 228 => 316 | 229 => 317 | n => n, fun | n => n⟩
theorem Tryz.lays189 : Go.Proofs.Lays.n189 Tryz.prog Tryz.lays189_ren := {
  mixed := by kernel_rfl
  f125 := Tryz.func247.trans (congrArg some (by kernel_rfl))
  f128 := Tryz.func279.trans (congrArg some (by kernel_rfl))
  f129 := Tryz.func280.trans (congrArg some (by kernel_rfl))
  f189 := Tryz.func242.trans (congrArg some (by kernel_rfl))
  f215 := Tryz.func294.trans (congrArg some (by kernel_rfl))
  f216 := Tryz.func305.trans (congrArg some (by kernel_rfl))
  f257 := Tryz.func267.trans (congrArg some (by kernel_rfl))
  f294 := Tryz.func299.trans (congrArg some (by kernel_rfl))
  f295 := Tryz.func300.trans (congrArg some (by kernel_rfl))
  f296 := Tryz.func301.trans (congrArg some (by kernel_rfl))
  f297 := Tryz.func302.trans (congrArg some (by kernel_rfl))
  f298 := Tryz.func303.trans (congrArg some (by kernel_rfl))
  f299 := Tryz.func304.trans (congrArg some (by kernel_rfl))
  f300 := Tryz.func306.trans (congrArg some (by kernel_rfl))
  f301 := Tryz.func307.trans (congrArg some (by kernel_rfl))
  f328 := Tryz.func327.trans (congrArg some (by kernel_rfl))
  f329 := Tryz.func312.trans (congrArg some (by kernel_rfl))
  f330 := Tryz.func313.trans (congrArg some (by kernel_rfl))
  f331 := Tryz.func328.trans (congrArg some (by kernel_rfl))
  f332 := Tryz.func329.trans (congrArg some (by kernel_rfl))
  f343 := Tryz.func343.trans (congrArg some (by kernel_rfl))
  t0 := Tryz.underlying0
  a0 := Tryz.isAgg0
  z0 := Tryz.sizeOf0
  v0 := Tryz.zeroValue0
  t3 := Tryz.underlying3
  a3 := Tryz.isAgg3
  z3 := Tryz.sizeOf3
  v3 := Tryz.zeroValue3
  t4 := Tryz.underlying4
  a4 := Tryz.isAgg4
  z4 := Tryz.sizeOf4
  v4 := Tryz.zeroValue4
  t5 := Tryz.underlying5
  a5 := Tryz.isAgg5
  z5 := Tryz.sizeOf5
  v5 := Tryz.zeroValue5
  t9 := Tryz.underlying9
  a9 := Tryz.isAgg9
  z9 := Tryz.sizeOf9
  v9 := Tryz.zeroValue9
  t28 := Tryz.underlying23
  a28 := Tryz.isAgg23
  z28 := Tryz.sizeOf23
  v28 := Tryz.zeroValue23
  t46 := Tryz.underlying248
  a46 := Tryz.isAgg248
  z46 := Tryz.sizeOf248
  v46 := Tryz.zeroValue248
  t51 := Tryz.underlying267
  a51 := Tryz.isAgg267
  z51 := Tryz.sizeOf267
  v51 := Tryz.zeroValue267
  t53 := Tryz.underlying269
  a53 := Tryz.isAgg269
  z53 := Tryz.sizeOf269
  v53 := Tryz.zeroValue269
  t131 := Tryz.underlying229
  a131 := Tryz.isAgg229
  z131 := Tryz.sizeOf229
  v131 := Tryz.zeroValue229
  t182 := Tryz.underlying260
  a182 := Tryz.isAgg260
  z182 := Tryz.sizeOf260
  v182 := Tryz.zeroValue260
  t183 := Tryz.underlying261
  a183 := Tryz.isAgg261
  z183 := Tryz.sizeOf261
  v183 := Tryz.zeroValue261
  t218 := Tryz.underlying297
  a218 := Tryz.isAgg297
  z218 := Tryz.sizeOf297
  v218 := Tryz.zeroValue297
  t222 := Tryz.underlying301
  a222 := Tryz.isAgg301
  z222 := Tryz.sizeOf301
  v222 := Tryz.zeroValue301
  t228 := Tryz.underlying316
  a228 := Tryz.isAgg316
  z228 := Tryz.sizeOf316
  v228 := Tryz.zeroValue316
  t229 := Tryz.underlying317
  a229 := Tryz.isAgg317
  z229 := Tryz.sizeOf317
  v229 := Tryz.zeroValue317 }
open Go.Sort Go.RowKit in
theorem Tryz.slices_Sort_int (blk off cap : Nat) (zs : List Int) (w : World) (hH : Holds (Value.int .i64) w blk off zs.toArray) (hblk : blk < w.heap.size) (hsz : zs.length < 4611686018427387904) :
    Calls Tryz.prog 242 #[.slice (some ⟨blk, off, none⟩) zs.length cap] w fun e w' =>
      e = .returned (.tuple #[]) ∧ ∃ n os, w' = grow (putRow (Value.int .i64) (Sort.ahead w n) blk off (zs.mergeSort fun x y => decide (x ≤ y)).toArray) os := Any.slices_Sort_int Tryz.lays189 blk off cap zs w hH hblk hsz
def Tryz.lays190_ren : Go.Shelf.Ren := ⟨fun | 190 => 269 | 125 => 247 | 258 => 310 | 128 => 279 | 129 => 280 | 302 => 330 | 303 => 331 | 304 => 332 | 305 => 333 | 306 => 334 | 307 => 335 | 308 => 336 | 309 => 337 | 310 => 338 | 333 => 344 | 329 => 312 | 330 => 313 | 334 => 345 | 335 => 346 | 336 => 347 | 344 => 348 | n => n, fun | 31 => 29 | 9 => 9 | 3 => 3 | 46 => 248 | 0 => 0 | 51 => 267 | 53 => 269 | 4 => 4 | 183 => 261 | 182 => 260 | 131 => 229 | 5 => 5 | 218 => 297 | 222 => 301 | 228 => 316 | 229 => 317 | n => n, fun | n => n⟩
theorem Tryz.lays190 : Go.Proofs.Lays.n190 Tryz.prog Tryz.lays190_ren := {
  mixed := by kernel_rfl
  f125 := Tryz.func247.trans (congrArg some (by kernel_rfl))
  f128 := Tryz.func279.trans (congrArg some (by kernel_rfl))
  f129 := Tryz.func280.trans (congrArg some (by kernel_rfl))
  f190 := Tryz.func269.trans (congrArg some (by kernel_rfl))
  f258 := Tryz.func310.trans (congrArg some (by kernel_rfl))
  f302 := Tryz.func330.trans (congrArg some (by kernel_rfl))
  f303 := Tryz.func331.trans (congrArg some (by kernel_rfl))
  f304 := Tryz.func332.trans (congrArg some (by kernel_rfl))
  f305 := Tryz.func333.trans (congrArg some (by kernel_rfl))
  f306 := Tryz.func334.trans (congrArg some (by kernel_rfl))
  f307 := Tryz.func335.trans (congrArg some (by kernel_rfl))
  f308 := Tryz.func336.trans (congrArg some (by kernel_rfl))
  f309 := Tryz.func337.trans (congrArg some (by kernel_rfl))
  f310 := Tryz.func338.trans (congrArg some (by kernel_rfl))
  f329 := Tryz.func312.trans (congrArg some (by kernel_rfl))
  f330 := Tryz.func313.trans (congrArg some (by kernel_rfl))
  f333 := Tryz.func344.trans (congrArg some (by kernel_rfl))
  f334 := Tryz.func345.trans (congrArg some (by kernel_rfl))
  f335 := Tryz.func346.trans (congrArg some (by kernel_rfl))
  f336 := Tryz.func347.trans (congrArg some (by kernel_rfl))
  f344 := Tryz.func348.trans (congrArg some (by kernel_rfl))
  t0 := Tryz.underlying0
  a0 := Tryz.isAgg0
  z0 := Tryz.sizeOf0
  v0 := Tryz.zeroValue0
  t3 := Tryz.underlying3
  a3 := Tryz.isAgg3
  z3 := Tryz.sizeOf3
  v3 := Tryz.zeroValue3
  t4 := Tryz.underlying4
  a4 := Tryz.isAgg4
  z4 := Tryz.sizeOf4
  v4 := Tryz.zeroValue4
  t5 := Tryz.underlying5
  a5 := Tryz.isAgg5
  z5 := Tryz.sizeOf5
  v5 := Tryz.zeroValue5
  t9 := Tryz.underlying9
  a9 := Tryz.isAgg9
  z9 := Tryz.sizeOf9
  v9 := Tryz.zeroValue9
  t31 := Tryz.underlying29
  a31 := Tryz.isAgg29
  z31 := Tryz.sizeOf29
  v31 := Tryz.zeroValue29
  t46 := Tryz.underlying248
  a46 := Tryz.isAgg248
  z46 := Tryz.sizeOf248
  v46 := Tryz.zeroValue248
  t51 := Tryz.underlying267
  a51 := Tryz.isAgg267
  z51 := Tryz.sizeOf267
  v51 := Tryz.zeroValue267
  t53 := Tryz.underlying269
  a53 := Tryz.isAgg269
  z53 := Tryz.sizeOf269
  v53 := Tryz.zeroValue269
  t131 := Tryz.underlying229
  a131 := Tryz.isAgg229
  z131 := Tryz.sizeOf229
  v131 := Tryz.zeroValue229
  t182 := Tryz.underlying260
  a182 := Tryz.isAgg260
  z182 := Tryz.sizeOf260
  v182 := Tryz.zeroValue260
  t183 := Tryz.underlying261
  a183 := Tryz.isAgg261
  z183 := Tryz.sizeOf261
  v183 := Tryz.zeroValue261
  t218 := Tryz.underlying297
  a218 := Tryz.isAgg297
  z218 := Tryz.sizeOf297
  v218 := Tryz.zeroValue297
  t222 := Tryz.underlying301
  a222 := Tryz.isAgg301
  z222 := Tryz.sizeOf301
  v222 := Tryz.zeroValue301
  t228 := Tryz.underlying316
  a228 := Tryz.isAgg316
  z228 := Tryz.sizeOf316
  v228 := Tryz.zeroValue316
  t229 := Tryz.underlying317
  a229 := Tryz.isAgg317
  z229 := Tryz.sizeOf317
  v229 := Tryz.zeroValue317 }
open Go.Sort Go.RowKit in
theorem Tryz.slices_Sort_string (blk off cap : Nat) (ss : List (List UInt8)) (w : World) (hH : Holds encStr w blk off ss.toArray) (hblk : blk < w.heap.size) (hsz : ss.length < 4611686018427387904) :
    Calls Tryz.prog 269 #[.slice (some ⟨blk, off, none⟩) ss.length cap] w fun e w' =>
      e = .returned (.tuple #[]) ∧ ∃ n os, w' = grow (putRow encStr (Sort.ahead w n) blk off (ss.mergeSort fun x y => decide (x ≤ y)).toArray) os := Any.slices_Sort_string Tryz.lays190 blk off cap ss w hH hblk hsz
def Tryz.laysNm220_ren : Go.Shelf.Ren := ⟨fun | 20 => 243 | n => n, fun | 22 => 23 | 3 => 3 | 4 => 4 | 0 => 0 | n => n, fun | n => n⟩
theorem Tryz.laysNm220 : Go.Proofs.Lays2.n20 Tryz.prog Tryz.laysNm220_ren := {
  mixed := by kernel_rfl
  f20 := Tryz.func243.trans (congrArg some (by kernel_rfl))
  t0 := Tryz.underlying0
  a0 := Tryz.isAgg0
  z0 := Tryz.sizeOf0
  v0 := Tryz.zeroValue0
  t3 := Tryz.underlying3
  a3 := Tryz.isAgg3
  z3 := Tryz.sizeOf3
  v3 := Tryz.zeroValue3
  t4 := Tryz.underlying4
  a4 := Tryz.isAgg4
  z4 := Tryz.sizeOf4
  v4 := Tryz.zeroValue4
  t22 := Tryz.underlying23
  a22 := Tryz.isAgg23
  z22 := Tryz.sizeOf23
  v22 := Tryz.zeroValue23
  i3 := by kernel_rfl }
open Go.RowKit Go.Lib Go.Sort in
theorem Tryz.slices_Compact_int (blk off cap : Nat) (zs : List Int) (w : World) (hH : Holds (Value.int .i64) w blk off zs.toArray) (hsz : zs.length ≤ 9223372036854775807) (hcap : zs.length ≤ cap) :
    Calls Tryz.prog 243 #[.slice (some ⟨blk, off, none⟩) zs.length cap] w fun e w' => e = .returned (.slice (some ⟨blk, off, none⟩) (Lib.compact zs).length cap) ∧ ∃ q, w' = putRow (Value.int .i64) (Sort.ahead w q) blk off (Lib.compact zs ++ List.replicate (zs.length - (Lib.compact zs).length) 0).toArray := Any.slices_Compact_int Tryz.laysNm220 blk off cap zs w hH hsz hcap
open Go.RowKit Go.Lib Go.Sort in
theorem Tryz.slices_Compact_int_empty (a : Option Addr) (cap : Nat) (w : World) :
    Calls Tryz.prog 243 #[.slice a 0 cap] w fun e w' => e = .returned (.slice a 0 cap) ∧ w' = w := Any.slices_Compact_int_empty Tryz.laysNm220 a cap w
def Tryz.lays194_ren : Go.Shelf.Ren := ⟨fun | 194 => 270 | n => n, fun | 31 => 29 | 9 => 9 | 3 => 3 | 4 => 4 | 0 => 0 | n => n, fun | n => n⟩
theorem Tryz.lays194 : Go.Proofs.Lays.n194 Tryz.prog Tryz.lays194_ren := {
  mixed := by kernel_rfl
  f194 := Tryz.func270.trans (congrArg some (by kernel_rfl))
  t0 := Tryz.underlying0
  a0 := Tryz.isAgg0
  z0 := Tryz.sizeOf0
  v0 := Tryz.zeroValue0
  t3 := Tryz.underlying3
  a3 := Tryz.isAgg3
  z3 := Tryz.sizeOf3
  v3 := Tryz.zeroValue3
  t4 := Tryz.underlying4
  a4 := Tryz.isAgg4
  z4 := Tryz.sizeOf4
  v4 := Tryz.zeroValue4
  t9 := Tryz.underlying9
  a9 := Tryz.isAgg9
  z9 := Tryz.sizeOf9
  v9 := Tryz.zeroValue9
  t31 := Tryz.underlying29
  a31 := Tryz.isAgg29
  z31 := Tryz.sizeOf29
  v31 := Tryz.zeroValue29 }
open Go.RowKit Go.Lib Go.Sort in
theorem Tryz.slices_Compact_string (blk off cap : Nat) (zs : List (List UInt8)) (w : World) (hH : Holds encStr w blk off zs.toArray) (hsz : zs.length ≤ 9223372036854775807) (hcap : zs.length ≤ cap) :
    Calls Tryz.prog 270 #[.slice (some ⟨blk, off, none⟩) zs.length cap] w fun e w' => e = .returned (.slice (some ⟨blk, off, none⟩) (Lib.compact zs).length cap) ∧ ∃ q, w' = putRow encStr (Sort.ahead w q) blk off (Lib.compact zs ++ List.replicate (zs.length - (Lib.compact zs).length) []).toArray := Any.slices_Compact_string Tryz.lays194 blk off cap zs w hH hsz hcap
open Go.RowKit Go.Lib Go.Sort in
theorem Tryz.slices_Compact_string_empty (a : Option Addr) (cap : Nat) (w : World) :
    Calls Tryz.prog 270 #[.slice a 0 cap] w fun e w' => e = .returned (.slice a 0 cap) ∧ w' = w := Any.slices_Compact_string_empty Tryz.lays194 a cap w
open Go.RowKit Go.Sort in
theorem Tryz.slices_Sort_string_none (p : Option Addr) (cap : Nat) (w : World) :
    Calls Tryz.prog 269 #[.slice p 0 cap] w fun e w' => e = .returned (.tuple #[]) ∧ w' = w := Any.slices_Sort_string_none Tryz.lays190 p cap w
open Go.RowKit Go.Sort in
theorem Tryz.slices_Sort_int_none (p : Option Addr) (cap : Nat) (w : World) :
    Calls Tryz.prog 242 #[.slice p 0 cap] w fun e w' => e = .returned (.tuple #[]) ∧ w' = w := Any.slices_Sort_int_none Tryz.lays189 p cap w
end Go.Proofs
namespace Go.Proofs.YtnobdioccfeokaaGreatDoor
open Go.RowKit
set_option linter.unusedVariables false
set_option maxRecDepth 100000
set_option maxHeartbeats 4000000
attribute [local irreducible] ar Der At
theorem nT (l:List ByteArray) (hl:l.length≤1000):FnD Tryz.prog 210 [DS l] (.row 1 9 (l.map .s)):=by
 refine af Tryz.func210 (fun hw W0=>?_)
 refine kgo ?_
 refine Jb (fun h=>?_) ?_
 ·rw [h]
  refine kgo ?_
  refine Cn 2 20001 9 ?_
  exact pJ
 ·refine kgo ?_
  exact pJ
theorem kB (l:List Int) (hl:l.length≤1000):FnD Tryz.prog 131 [DI l] (.row 1 3 (l.map .i)):=by
 refine af Tryz.func131 (fun hw W0=>?_)
 refine kgo ?_
 refine Jb (fun h=>?_) ?_
 ·rw [h]
  refine kgo ?_
  refine Cn 2 20001 3 ?_
  exact pJ
 ·refine kgo ?_
  exact pJ
theorem Ds (l:List Wr) (hl:l.length≤1000):FnD Tryz.prog 248 [.l 2 (l.map Wr.D)] (.row 2 155 (l.map Wr.D)):=by
 refine af Tryz.func248 (fun hw W0=>?_)
 refine kgo ?_
 refine Jb (fun h=>?_) ?_
 ·rw [h]
  refine kgo ?_
  refine Cn 2 20001 155 ?_
  exact pJ
 ·refine kgo ?_
  exact pJ
theorem i9 {α:Type} [Inhabited α] [DecidableEq α] (R:α→α→Prop) (tr:∀x y z,R x y→R y z→R x z) (d:Array α) (hs:∀i j,i<j→j<d.size→R d[i]! d[j]!∨d[i]! = d[j]!):∀m,m≤d.size→(Lib.compactUpTo d m).Pairwise R∧(∀z,z∈Lib.compactUpTo d m↔∃j,j<m∧d[j]! = z):=by
 intro m
 induction m with
 | zero=>intro _;exact ⟨by simp [Lib.compactUpTo],fun z=>by simp [Lib.compactUpTo]⟩
 | succ m ih=>
  intro hm
  obtain ⟨h1,h2⟩:=ih (by omega)
  rw [Lib.compactUpTo_succ]
  by_cases hk:Lib.keeps d m=true
  ·rw [if_pos hk]
   refine ⟨List.pairwise_append.2 ⟨h1,List.pairwise_singleton _ _,fun x hx y hy=>?_⟩,fun z=>?_⟩
   ·rw [List.mem_singleton] at hy
    subst hy
    obtain ⟨j,hj,rfl⟩:=(h2 x).1 hx
    have hne:d[m - 1]!≠d[m]!:=fun e=>by
     rw [Lib.keeps_neg (by omega) e.symm] at hk;cases hk
    have h3:=(hs (m - 1) m (by omega) (by omega)).resolve_right hne
    by_cases hjm:j=m - 1
    ·rw [hjm];exact h3
    ·rcases hs j (m - 1) (by omega) (by omega) with h4|h4
     ·exact tr _ _ _ h4 h3
     ·rw [h4];exact h3
   ·rw [List.mem_append,List.mem_singleton,h2]
    constructor
    ·rintro (⟨j,hj,e⟩|e)
     ·exact ⟨j,by omega,e⟩
     ·exact ⟨m,by omega,e.symm⟩
    ·rintro ⟨j,hj,e⟩
     by_cases hjm:j=m
     ·subst hjm;exact .inr e.symm
     ·exact .inl ⟨j,by omega,e⟩
  ·rw [if_neg hk,List.append_nil]
   refine ⟨h1,fun z=>(h2 z).trans ⟨fun ⟨j,hj,e⟩=>⟨j,by omega,e⟩,fun ⟨j,hj,e⟩=>?_⟩⟩
   by_cases hjm:j=m
   ·subst hjm
    have h0:0<j:=by
     rcases Nat.eq_zero_or_pos j with h|h
     ·subst h;exact absurd (Lib.keeps_lt_one d 0 (by omega)) hk
     ·exact h
    have heq:d[j]! = d[j - 1]!:=Classical.byContradiction fun hne=>hk (Lib.keeps_pos hne)
    exact ⟨j - 1,by omega,by rw [← heq];exact e⟩
   ·exact ⟨j,by omega,e⟩
theorem pr {α:Type} [Inhabited α] [DecidableEq α] (R:α→α→Prop) (tr:∀x y z,R x y→R y z→R x z) (l:List α) (hs:l.Pairwise fun x y=>R x y∨x=y):(Lib.compact l).Pairwise R∧∀z,z∈Lib.compact l↔z∈l:=by
 have h:=i9 R tr l.toArray (fun i j hij hj=>by
  have hj':j<l.length:=by simpa using hj
  have:=(List.pairwise_iff_getElem.1 hs) i j (by omega) hj' hij
  simpa [show i<l.length by omega,hj'] using this) l.length (by simp)
 refine ⟨h.1,fun z=>(h.2 z).trans ⟨fun ⟨j,hj,e⟩=>?_,fun hz=>?_⟩⟩
 ·rw [← e];simp [hj]
 ·obtain ⟨j,hj,rfl⟩:=List.mem_iff_getElem.1 hz
  exact ⟨j,hj,by simp [hj]⟩
def Iq (l:List Int):List Int:=l.mergeSort fun x y=>decide (x≤y)
theorem FQ (l:List Int) (hl:l.length≤1000000):FnS Tryz.prog 242 1 3 (l.map .i) [] ((Iq l).map .i):=
 Fs Fd (cB Tryz.func242) (fun y hy=>(List.mem_mergeSort).1 hy) (List.length_mergeSort _) (fun p cap w=>Tryz.slices_Sort_int_none p cap w) (fun g cap w hH hg=>Tryz.slices_Sort_int g 0 cap l w hH hg (by omega))
theorem za (l:List Int):FnC Tryz.prog 243 1 3 (l.map .i) [] ((Lib.compact l).map .i):=
 Fn Fd (us:=List.replicate (l.length - (Lib.compact l).length) 0) (cB Tryz.func243) (fun y hy=>by
  obtain ⟨j,hj,e⟩:=(i9 (fun _ _=>True) (fun _ _ _ _ _=>trivial) l.toArray (fun _ _ _ _=>.inl trivial) l.length (by simp)).2 y |>.1 hy
  rw [← e];simp [hj]) (by rw [List.length_append,List.length_replicate];have:=Lib.compact_length_le l;omega) (fun p cap w=>Tryz.slices_Compact_int_empty p cap w) (fun g cap w hH hc hm=>Tryz.slices_Compact_int g 0 cap l w hH (by unfold maxLen at hm;omega) hc)
abbrev toU (b:ByteArray):List UInt8:=b.data.toList
abbrev ofU (l:List UInt8):ByteArray:=⟨l.toArray⟩
theorem vl (b:ByteArray):ofU (toU b)=b:=by cases b;simp [ofU,toU]
theorem JW (l:List ByteArray):(l.map toU).map (fun x:List UInt8=>D.s ⟨x.toArray⟩)=l.map D.s:=by
 rw [List.map_map]
 exact List.map_congr_left fun b _=>congrArg D.s (vl b)
theorem I8 (l:List (List UInt8)):l.map (fun x:List UInt8=>D.s ⟨x.toArray⟩)=(l.map ofU).map D.s:=by rw [List.map_map];rfl
def HK (l:List (List UInt8)):List (List UInt8):=l.mergeSort fun x y=>decide (x≤y)
theorem GU (l:List ByteArray) (hl:l.length≤1000000):FnS Tryz.prog 269 1 9 (l.map .s) [] ((HK (l.map toU)).map fun x:List UInt8=>D.s ⟨x.toArray⟩):=by
 rw [← JW l]
 exact Fs Fe (cB Tryz.func269) (fun y hy=>(List.mem_mergeSort).1 hy) (List.length_mergeSort _) (fun p cap w=>Tryz.slices_Sort_string_none p cap w) (fun g cap w hH hg=>Tryz.slices_Sort_string g 0 cap (l.map toU) w hH hg (by rw [List.length_map];omega))
theorem yI (l:List (List UInt8)):FnC Tryz.prog 270 1 9 (l.map fun x:List UInt8=>D.s ⟨x.toArray⟩) [] ((Lib.compact l).map fun x:List UInt8=>D.s ⟨x.toArray⟩):=
 Fn Fe (us:=List.replicate (l.length - (Lib.compact l).length) []) (cB Tryz.func270) (fun y hy=>by
  obtain ⟨j,hj,e⟩:=(i9 (fun _ _=>True) (fun _ _ _ _ _=>trivial) l.toArray (fun _ _ _ _=>.inl trivial) l.length (by simp)).2 y |>.1 hy
  rw [← e];simp [hj]) (by rw [List.length_append,List.length_replicate];have:=Lib.compact_length_le l;omega) (fun p cap w=>Tryz.slices_Compact_string_empty p cap w) (fun g cap w hH hc hm=>Tryz.slices_Compact_string g 0 cap l w hH (by unfold maxLen at hm;omega) hc)
end Go.Proofs.YtnobdioccfeokaaGreatDoor
namespace Go.Proofs.YtnobdioccfeokaaGreatDoor
open Go.RowKit
set_option linter.unusedVariables false
set_option maxRecDepth 100000
set_option maxHeartbeats 4000000
set_option linter.unusedSimpArgs false
attribute [local irreducible] ar Der At
theorem zz {x y:List UInt8} (h:x≤y):Op.bytesLess x y=true∨x=y:=by
 by_cases e:x=y
 ·exact .inr e
 ·refine .inl ?_
  have h1:=NLt.total (a:=ofU x) (b:=ofU y) (fun he=>e (by have:=congrArg toU he;simpa [toU,ofU] using this))
  unfold NLt cN at h1
  rw [ByteArray.toList_eq,ByteArray.toList_eq] at h1
  simp only [ofU] at h1
  rcases h1 with h1|h1
  ·simpa using h1
  ·rw [_root_.Go.Proofs.bytesLess_eq] at h1
   exact absurd (of_decide_eq_true h1) h
theorem C0 (l:List ByteArray):(Lib.compact (HK (l.map toU))).map ofU=cG l:=by
 have hs:(HK (l.map toU)).Pairwise fun x y=>Op.bytesLess x y=true∨x=y:=by
  have:=List.pairwise_mergeSort (le:=fun x y:List UInt8=>decide (x≤y)) (fun a b c h1 h2=>by
   simp only [decide_eq_true_eq] at h1 h2 ⊢
   exact List.le_trans h1 h2) (fun a b=>by
   simp only [Bool.or_eq_true,decide_eq_true_eq]
   exact List.le_total a b) (l.map toU)
  exact this.imp fun {x y} h=>zz (of_decide_eq_true h)
 obtain ⟨h1,h2⟩:=pr (fun x y=>Op.bytesLess x y=true) (fun x y z=>mK x y z) _ hs
 refine (xn (List.pairwise_map.2 (h1.imp fun {x y} h=>?_)) (fun z=>?_)).symm
 ·show cN _ _=true
  unfold cN
  rw [ByteArray.toList_eq,ByteArray.toList_eq]
  simpa [ofU] using h
 ·rw [List.mem_map]
  constructor
  ·rintro ⟨x,hx,rfl⟩
   rw [h2] at hx
   obtain ⟨b,hb,rfl⟩:=List.mem_map.1 (List.mem_mergeSort.1 hx)
   rw [vl];exact hb
  ·intro hz
   exact ⟨toU z,(h2 _).2 (List.mem_mergeSort.2 (List.mem_map.2 ⟨z,hz,rfl⟩)),vl z⟩
theorem kY (l:List ByteArray) (hl:l.length≤1000):FnD Tryz.prog 245 [DS l] (.d (DS (cG l))):=by
 have f1:=nT l hl
 have f2:=GU l (by omega)
 have f3:=yI (HK (l.map toU))
 have hE:(Lib.compact (HK (l.map toU))).map (fun x:List UInt8=>D.s ⟨x.toArray⟩)=(cG l).map D.s:=by rw [← C0,I8]
 rw [hE] at f3
 refine af Tryz.func245 (fun hw W0=>?_)
 repeat (first|(refine ca ?_;first|refine aM ?_|refine b6 ?_|refine aR ?_|refine bh ?_|refine aL ?_|refine bg ?_|refine aX ?_|refine az ?_|refine aV ?_)|(refine eG ?_;first|refine bH ?_|refine eC ?_|refine bP ?_|refine cb ?_)|(refine eT ?_;first|refine cS (fun _=>?_)|refine cd ?_|refine bR ?_|refine b9 ?_|refine bu ?_|refine bJ ?_|refine b8 ?_)|(refine eR ?_;first|refine ch ?_|refine d7 ?_|refine b7 ?_|refine bD ?_|refine bN ?_|refine bX ?_|refine bS ?_)|(refine eK ?_;first|refine eF ?_|refine eA ?_|refine bU ?_|refine bG ?_|refine eH ?_|refine bd ?_|refine bc ?_)|(refine bV ?_;first|refine cD (d:=2) ?_|refine ba ?_|refine bT ?_)|(refine eV ?_;first|refine dL (d:=2) ?_|refine bI ?_|refine bQ ?_|refine eJ ?_)|(refine bL ?_;first|refine bO ?_|refine aS ?_|refine aN ?_|refine aW ?_|refine aQ ?_|refine aY ?_)|(refine eE ?_;first|refine bZ ?_|refine eB ?_|refine be ?_|refine aP ?_|refine aU ?_)|(refine aK ?_;first|refine aq _ ?_|refine bf ?_|refine aw ?_|refine au ?_|refine ax ?_)|(refine eP ?_;first|refine bW ?_|refine bE ?_|refine bM ?_)|(refine gOp ?_;first|refine eD ?_|refine eM ?_|refine aZ ?_|refine eU ?_|refine eN ?_|refine bK ?_|refine aO ?_|refine cf ?_|refine eO ?_|refine bC ?_|refine bY ?_|refine aT ?_|refine ay ?_|refine cg ?_|refine sNo ?_|refine dU ?_|refine av ?_)|refine dY ?_|refine dq ?_|refine fj ?_|refine bj ?_|refine ci ?_|refine br ?_|refine fm ?_|refine fl ?_|refine eX ?_|refine dB ?_|refine ck ?_|refine bo ?_|refine aA ?_|refine bk ?_|refine ct ?_|refine bt ?_|refine aBlkX ?_|refine cm ?_)
 exact aj
def fQ (a:Big) (ks:List Int):List Int:=ks.flatMap fun k=>(dF a k).links
theorem wd (a:Big) (ks:List Int) (k:Int):fQ a (ks++[k])=fQ a ks++(dF a k).links:=by unfold fQ;rw [List.flatMap_append];simp
theorem tE {sig:List Ctl} {b:Big} (h:aH sig b=true) (i:Nat) (hi:i<b.nodes.length):(b.nodes[i]).links.length≤3:=by
 obtain ⟨c0,c1,_,c3,_⟩:=e9 h i hi
 have:=tO (eZ (dj h).1).1 _ c0 c1
 omega
theorem gW {a:Big} {ns:List Int} {k:Int} (h:k∈bz a ns):∃q:Nat,k=q∧q<a.nodes.length∧mH a ns q=true:=by
 obtain ⟨q,h1,h2,h3⟩:=bp.1 h
 exact ⟨q,h3,h1,h2⟩
theorem mB {sig:List Ctl} {a:Big} (h:aH sig a=true):∀ks:List Int,(∀k∈ks,∃q:Nat,k=q∧q<a.nodes.length)→(fQ a ks).length≤3 * ks.length:=by
 intro ks
 induction ks with
 | nil=>intro _;exact Nat.le_refl _
 | cons k ks ih=>
  intro hk
  obtain ⟨q,rfl,hq⟩:=hk k (by simp)
  have h1:=ih (fun x hx=>hk x (by simp [hx]))
  have h2:=tE h q hq
  show ((dF a (q:Int)).links++fQ a ks).length≤_
  rw [List.length_append,aB a q hq,List.length_cons];omega
theorem tL {sig:List Ctl} {a:Big} (h:aH sig a=true) (ns:List Int):Lib.compact (Iq (fQ a (bz a ns)))=am a ns:=by
 have hs:(Iq (fQ a (bz a ns))).Pairwise fun x y:Int=>x<y∨x=y:=by
  have:=List.pairwise_mergeSort (le:=fun x y:Int=>decide (x≤y)) (fun a b c h1 h2=>by simp only [decide_eq_true_eq] at h1 h2 ⊢;omega) (fun a b=>by simp only [Bool.or_eq_true,decide_eq_true_eq];omega) (fQ a (bz a ns))
  exact this.imp fun {x y} h=>by have:=of_decide_eq_true h;omega
 obtain ⟨h1,h2⟩:=pr (fun x y:Int=>x<y) (fun x y z=>Int.lt_trans) _ hs
 refine A6 (lt:=fun x y:Int=>x<y) (fun x=>Int.lt_irrefl x) (fun x y z=>Int.lt_trans) _ _ h1 (gN _ _) (fun z=>?_)
 rw [h2]
 constructor
 ·intro hz
  obtain ⟨k,hk,hl⟩:=List.mem_flatMap.1 (List.mem_mergeSort.1 hz)
  obtain ⟨q,rfl,hq,_⟩:=gW hk
  rw [aB a q hq] at hl
  obtain ⟨l,rfl,hll⟩:=iC ((e9 h q hq).2.2.2.2 _ hl)
  exact bp.2 ⟨l,hll,List.any_eq_true.2 ⟨_,hk,by rw [aB a q hq];exact cO.2 hl⟩,rfl⟩
 ·intro hz
  obtain ⟨l,hll,hp,rfl⟩:=bp.1 hz
  obtain ⟨k,hk,hl⟩:=List.any_eq_true.1 hp
  exact List.mem_mergeSort.2 (List.mem_flatMap.2 ⟨k,hk,cO.1 hl⟩)
theorem sI {α:Type} [DecidableEq α] (xs ys:List α) (h:xs.Nodup) (hs:∀x∈xs,x∈ys):xs.length≤ys.length:=by
 induction xs generalizing ys with
 | nil=>exact Nat.zero_le _
 | cons x xs ih=>
  have hx:=hs x (by simp)
  rw [List.nodup_cons] at h
  have h2:=ih (ys.erase x) h.2 (fun y hy=>(List.mem_erase_of_ne (fun (e:y=x)=>h.1 (by rw [← e];exact hy))).2 (hs y (by simp [hy])))
  rw [List.length_erase_of_mem hx] at h2
  have:=List.length_pos_of_mem hx
  rw [List.length_cons];omega
theorem Aq {sig:List Ctl} {r:Big} (h:aH sig r=true) (hs:cA r=true):ak r≤3 * r.nodes.length:=by
 let code:Nat→Nat:=fun l=>3 * ((aD r l).getD 0 (0,0)).1.toNat+((aD r l).getD 0 (0,0)).2.toNat
 have hc:∀l,l<ak r→∃i j:Nat,∃hi:i<r.nodes.length,∃hj:j<(r.nodes[i]).links.length,(r.nodes[i]).links[j]=(l:Int)∧code l=3 * i+j:=fun l hl=>by
  have h0:0<(aD r l).length:=List.length_pos_iff.2 (ii hs l hl)
  obtain ⟨i,j,hi,hj,e1,e2⟩:=d9.1 (List.getElem_mem h0)
  refine ⟨i,j,hi,hj,e1,?_⟩
  show 3 * ((aD r l).getD 0 (0,0)).1.toNat+((aD r l).getD 0 (0,0)).2.toNat=_
  rw [List.getD_eq_getElem?_getD,List.getElem?_eq_getElem h0,Option.getD_some,e2];rfl
 have hn:((List.range (ak r)).map code).Nodup:=by
  refine List.pairwise_map.2 (List.Pairwise.imp_of_mem (fun {x y} hx hy hne e=>hne ?_) List.nodup_range)
  obtain ⟨i,j,hi,hj,e1,e2⟩:=hc x (List.mem_range.1 hx)
  obtain ⟨i',j',hi',hj',e3,e4⟩:=hc y (List.mem_range.1 hy)
  have l1:=tE h i hi
  have l2:=tE h i' hi'
  have hii:i=i':=by omega
  subst hii
  have hjj:j=j':=by omega
  subst hjj
  omega
 have:=sI _ (List.range (3 * r.nodes.length)) hn (fun x hx=>by
  obtain ⟨l,hl,rfl⟩:=List.mem_map.1 hx
  obtain ⟨i,j,hi,hj,e1,e2⟩:=hc l (List.mem_range.1 hl)
  have l1:=tE h i hi
  rw [e2];exact List.mem_range.2 (by omega))
 simpa using this
theorem zn {sig:List Ctl} {r a:Big} {ns:List Int} (hr:aH sig r=true) (hs:cA r=true) (ha:aH sig a=true) (him:oK r a ns):(am a ns).length+r.outer.length≤24:=by
 have h1:=Aq hr hs
 have hd:=bl ha
 have hdr:=bl hr
 have h2:(bz a ns).length+ns.length≤a.nodes.length:=by
  have hn:(bz a ns++ns).Nodup:=by
   refine List.nodup_append.2 ⟨i1 (· < ·) (fun x=>Int.lt_irrefl x) (gN _ _),List.nodup_iff_pairwise_ne.2 (List.pairwise_iff_getElem.2 fun i j hi hj hij e=>?_),fun x hx y hy e=>?_⟩
   ·have:=him.inj i j (by have:=him.len;omega) (by have:=him.len;omega) (by rw [bF _ i hi,bF _ j hj];exact e)
    omega
   ·obtain ⟨q,rfl,_,hp⟩:=gW hx
    unfold mH at hp
    rw [← e] at hy
    rw [cO.2 hy] at hp
    simp at hp
  have:=sI _ (IY a.nodes.length) hn (fun x hx=>by
   unfold IY
   rcases List.mem_append.1 hx with hx|hx
   ·obtain ⟨q,rfl,hq,_⟩:=gW hx
    exact List.mem_map.2 ⟨q,List.mem_range.2 hq,rfl⟩
   ·obtain ⟨i,hi,rfl⟩:=List.mem_iff_getElem.1 hx
    obtain ⟨mm,hm,e,_⟩:=him.at' i (by have:=him.len;omega)
    rw [bF _ i hi] at e
    exact List.mem_map.2 ⟨mm,List.mem_range.2 hm,e.symm⟩)
  rw [List.length_append,EP] at this
  exact this
 have h3:=mB ha (bz a ns) (fun k hk=>by obtain ⟨q,e,hq,_⟩:=gW hk;exact ⟨q,e,hq⟩)
 have h4:(am a ns).length≤(fQ a (bz a ns)).length:=by
  rw [← tL ha ns]
  exact Nat.le_trans (Lib.compact_length_le _) (by unfold Iq;rw [List.length_mergeSort];exact Nat.le_refl _)
 have h5:=him.len
 have h6:r.outer.length≤ak r:=by unfold ak;omega
 omega
theorem GQ:∀i:Fin 26,Utf8.encode (97+((i:Nat):Int))=⟨#[UInt8.ofNat (97+i)]⟩:=by decide
theorem vK (a:Big) (ks:List Int):([]:List D)=(fQ a (ks.take 0)).map D.i:=rfl
theorem tN (o:List ByteArray):k7 o 0 = []:=rfl
attribute [local irreducible] k7 mJ am fQ in
theorem mc {sig:List Ctl} {r a:Big} (m:Mat) (hbr:aH sig r=true) (hs:cA r=true) (hba:aH sig a=true) (him:oK r a m.nodes):FnD Tryz.prog 196 [r.D,a.D,m.D] (.tp [DI (am a m.nodes),DS (cj r.outer (am a m.nodes).length),.b (decide (((am a m.nodes).length:Int)+r.outer.length≤16))]):=by
 have few:=zn hbr hs hba him
 have hdr:=bl hbr
 have da:=bw hba
 have hn8:=(bl hba).2.1
 have f1:=lO m hba
 have hks:∀k∈bz a m.nodes,∃q:Nat,k=q∧q<a.nodes.length:=fun k hk=>by obtain ⟨q,e,hq,_⟩:=gW hk;exact ⟨q,e,hq⟩
 have hkl:(bz a m.nodes).length≤a.nodes.length:=dz _ _
 have hpe:=tL hba m.nodes
 have hlen:=mB hba (bz a m.nodes) hks
 have f2:=FQ (fQ a (bz a m.nodes)) (by omega)
 have f3:=za (Iq (fQ a (bz a m.nodes)))
 rw [hpe] at f3
 have hlks:∀i,i≤(bz a m.nodes).length→(fQ a ((bz a m.nodes).take i)).length≤3 * i:=fun i hi=>by
  have:=mB hba ((bz a m.nodes).take i) (fun k hk=>hks k (List.mem_of_mem_take hk))
  rw [List.length_take] at this;omega
 have hL0:=vK a (bz a m.nodes)
 have hN0:([]:List D)=(k7 r.outer 0).map D.s:=by rw [tN];rfl
 refine af Tryz.func196 (fun hw W0=>?_)
 refine kgo ?_
 refine ai [3,4,10,19,20] (fun i:Nat=>i≤(bz a m.nodes).length) (fun i=>(bz a m.nodes).length - i) (fun i=>[(9,.sy (.k 20001)),(20001,.tk (.row 1 3 ((fQ a ((bz a m.nodes).take i)).map .i))),(21,.sy (.d (.i i)))]) 0 (Nat.zero_le _) (fun i hi=>?_)
 refine kgo ?_
 refine aJ (fun h=>?_) (fun h=>?_)
 ·have hlt:i<(bz a m.nodes).length:=by omega
  obtain ⟨q,hq,hqa⟩:=hks _ (List.getElem_mem hlt)
  have h3:=tE hba q hqa
  have hl:=hlks i hi
  have hs:(fQ a ((bz a m.nodes).take (i+1))).map D.i=(fQ a ((bz a m.nodes).take i)++(a.nodes[q]).links).map D.i:=by rw [List.take_succ_eq_append_getElem hlt,wd,hq,aB a q hqa]
  refine kgo ?_
  refine cS (n:=q) (fun _=>?_) rfl rfl (congrArg some hq)
  refine kgo ?_
  exact aa (i+1) hlt (by omega)
 rw [show (bz a m.nodes).take i=bz a m.nodes from List.take_of_length_le (by omega)]
 refine kgo ?_
 refine ai [3,9] (fun j:Nat=>j≤24∧(k7 r.outer j).length≤(am a m.nodes).length) (fun j=>24 - j) (fun j=>[(10,.sy (.k 20002)),(20002,.tk (.row 1 9 ((k7 r.outer j).map .s))),(13,.sy (.v (.int .i32 (97+(j:Int)))))]) 0 ⟨Nat.zero_le _,by rw [tN];exact Nat.zero_le _⟩ (fun j hj=>?_)
 refine kgo ?_
 refine aJ (fun h=>?_) (fun h=>?_)
 ·simp only [List.length_map] at h
  have hfew:=A8 r.outer j (by omega)
  have hra:Utf8.encode (97+(j:Int))=⟨#[UInt8.ofNat (97+j)]⟩:=GQ ⟨j,by omega⟩
  have hcat:(⟨#[122]⟩:ByteArray).size+(⟨#[UInt8.ofNat (97+j)]⟩:ByteArray).size≤1000000:=by show 1+1≤1000000;omega
  have hj26:j<26:=by omega
  have f4:=lc r.outer (mJ j)
  have hz:=ul ⟨j,hj26⟩
  dsimp only at hz
  rw [← hz] at f4
  have hfr:(!qc r.outer ((⟨#[122]⟩:ByteArray) ++ ⟨#[UInt8.ofNat (97+j)]⟩))=lA r.outer j:=by rw [hz];unfold qc lA;rw [lM]
  have hsu:=oN r.outer j
  refine kgo ?_
  refine I6 hra (by show 1≤maxLen;decide) ?_
  refine kgo ?_
  refine cIf (fun h2=>?_) (fun h2=>?_)
  ·rw [hfr] at h2
   rw [if_pos h2] at hsu
   have hs:(k7 r.outer (j+1)).map D.s=(k7 r.outer j).map D.s++[.s ((⟨#[122]⟩:ByteArray) ++ ⟨#[UInt8.ofNat (97+j)]⟩)]:=by rw [hsu,List.map_append,hz];rfl
   have hlen2:(k7 r.outer (j+1)).length=(k7 r.outer j).length+1:=by rw [hsu,List.length_append];rfl
   refine kgo ?_
   rw [show 97+(j:Int)+1=97+((j+1:Nat):Int) by omega]
   exact aa (j+1) ⟨by omega,by omega⟩ (by omega) (hs:=⟨⟨rfl,rfl⟩,⟨jz rfl hs.symm,rfl⟩,⟨rfl,rfl⟩,by repeat (first|exact trivial|refine ⟨⟨rfl,rfl⟩,?_⟩)⟩)
  ·rw [hfr] at h2
   rw [if_neg (by rw [h2];exact Bool.false_ne_true)] at hsu
   have hs:(k7 r.outer (j+1)).map D.s=(k7 r.outer j).map D.s:=by rw [hsu]
   refine kgo ?_
   rw [show 97+(j:Int)+1=97+((j+1:Nat):Int) by omega]
   exact aa (j+1) ⟨by omega,by rw [hsu];exact hj.2⟩ (by omega) (hs:=⟨⟨rfl,rfl⟩,⟨jz rfl hs.symm,rfl⟩,⟨rfl,rfl⟩,by repeat (first|exact trivial|refine ⟨⟨rfl,rfl⟩,?_⟩)⟩)
 simp only [List.length_map] at h
 have hle:(k7 r.outer j).length=(am a m.nodes).length:=by omega
 rw [← hle,tM r.outer j (by omega)]
 rw [hle]
 repeat (first|refine cFz 9 ?_|refine cFz 10 ?_|(refine ca ?_;first|refine aM ?_|refine b6 ?_|refine aR ?_|refine bh ?_|refine aL ?_|refine bg ?_|refine aX ?_|refine az ?_|refine aV ?_)|(refine eG ?_;first|refine bH ?_|refine eC ?_|refine bP ?_|refine cb ?_)|(refine eT ?_;first|refine cS (fun _=>?_)|refine cd ?_|refine bR ?_|refine b9 ?_|refine bu ?_|refine bJ ?_|refine b8 ?_)|(refine eR ?_;first|refine ch ?_|refine d7 ?_|refine b7 ?_|refine bD ?_|refine bN ?_|refine bX ?_|refine bS ?_)|(refine eK ?_;first|refine eF ?_|refine eA ?_|refine bU ?_|refine bG ?_|refine eH ?_|refine bd ?_|refine bc ?_)|(refine bV ?_;first|refine ba ?_|refine bT ?_)|(refine eV ?_;first|refine bI ?_|refine bQ ?_|refine eJ ?_)|(refine bL ?_;first|refine bO ?_|refine aS ?_|refine aN ?_|refine aW ?_|refine aQ ?_|refine aY ?_)|(refine eE ?_;first|refine bZ ?_|refine eB ?_|refine be ?_|refine aP ?_|refine aU ?_)|(refine aK ?_;first|refine aq _ ?_|refine bf ?_|refine aw ?_|refine au ?_|refine ax ?_)|(refine eP ?_;first|refine bW ?_|refine bE ?_|refine bM ?_)|(refine gOp ?_;first|refine eD ?_|refine eM ?_|refine aZ ?_|refine eU ?_|refine eN ?_|refine bK ?_|refine aO ?_|refine cf ?_|refine eO ?_|refine bC ?_|refine bY ?_|refine aT ?_|refine ay ?_|refine cg ?_|refine sNo ?_|refine dU ?_|refine av ?_)|refine dY ?_|refine dq ?_|refine fj ?_|refine bj ?_|refine ci ?_|refine br ?_|refine fm ?_|refine fl ?_|refine eX ?_|refine dB ?_|refine ck ?_|refine bo ?_|refine aA ?_|refine bk ?_|refine ct ?_|refine bt ?_|refine aBlkX ?_|refine cm ?_)
 exact iS
end Go.Proofs.YtnobdioccfeokaaGreatDoor
namespace Go.Proofs.YtnobdioccfeokaaGreatDoor
open Go.RowKit
set_option linter.unusedVariables false
set_option maxRecDepth 100000
set_option maxHeartbeats 4000000
attribute [local irreducible] ar Der At
abbrev CV (b:Big):List Pt:=[.d (.i b.roots),.tk (.deep 3 153 (b.nodes.map Nd.D) []),.tk (.row 1 3 (b.sites.map .i)),.d (.i b.edges),.tk (.row 1 9 (b.outer.map .s)),.tk (.row 2 155 (b.inner.map Wr.D))]
theorem nj (b:Big) (hd:wy b) (hi:b.inner.length≤1000):FnO Tryz.prog 209 [b.D] [6] (CV b):=by
 obtain ⟨hd1,hd2,hd3,hd4,hd5,hd6,hd7⟩:=hd
 have f1:=kB b.sites hd4
 have f2:=nT b.outer hd5
 have f3:=Ds b.inner hi
 refine cT Tryz.func209 (fun hw W0=>?_)
 refine kgo ?_
 refine Ja 10003 1 20001 153 ?_
 refine ai [2,3,21,22,10010,10015,10018] (fun i:Nat=>i≤b.nodes.length) (fun i=>b.nodes.length - i) (fun i=>[(23,.sy (.d (.i i))),(10003,.tk (.bx [.d (.i b.roots),.k 20001,.k 10010,.d (.i b.edges),.k 10015,.k 10018])),(20001,.tk (.deep 3 153 ((b.nodes.take i).map Nd.D) []))]) 0 (Nat.zero_le _) (fun i hi=>?_)
 refine kgo ?_
 refine aJ (fun h=>?_) (fun h=>?_)
 ·have hlt:i<b.nodes.length:=by omega
  have f4:=kB b.nodes[i].links (hd7 i hlt)
  have hs:(b.nodes.take (i+1)).map Nd.D=(b.nodes.take i).map Nd.D++[b.nodes[i].D]:=by rw [List.take_succ_eq_append_getElem hlt,List.map_append];rfl
  refine kgo ?_
  exact aa (i+1) hlt (by omega) (hs:=⟨⟨rfl,rfl⟩,⟨rfl,rfl⟩,⟨Bi rfl hs.symm,rfl⟩,by repeat (first|exact trivial|refine ⟨⟨rfl,rfl⟩,?_⟩)⟩)
 rw [List.take_of_length_le (by omega)]
 refine kgo ?_
 exact ik (hp:=.cons (.d rfl) (.cons (.k rfl rfl) (.cons (.k rfl rfl) (.cons (.d rfl) (.cons (.k rfl rfl) (.cons (.k rfl rfl) .nil))))))
theorem zi (b:Big):FnD Tryz.prog 118 [b.D] (.d (.b (decide (b.sites.length=0) && decide (b.inner.length=0)))):=by
 refine af Tryz.func118 (fun hw W0=>?_)
 rw [show decide (b.sites.length=0)=decide ((b.sites.length:Int)=0) from decide_eq_decide.2 (by omega),show decide (b.inner.length=0)=decide ((b.inner.length:Int)=0) from decide_eq_decide.2 (by omega)]
 refine kgo ?_
 cases h:decide ((b.sites.length:Int)=0)
 ·refine kgo ?_
  exact aj
 refine kgo ?_
 exact aj
theorem Ay (sig:List Ctl) (b:Big) (hl:b.inner.length≤1048576):FnD Tryz.prog 65 [.l 3 (sig.map Ctl.D),b.D] (.d (.b (ft sig b))):=by
 have f1:=dW sig b hl
 have f2:=zi b
 refine af Tryz.func65 (fun hw W0=>?_)
 unfold ft
 refine kgo ?_
 cases h:aH sig b
 ·refine kgo ?_
  exact aj
 refine kgo ?_
  
 exact aj
def zU (p:Bool) (b:Big):Big:=if p then b else fK
theorem ox (sig:List Ctl) (b:Big) (hl:b.inner.length≤1000):FnO Tryz.prog 128 [.l 3 (sig.map Ctl.D),b.D] [6,0] (CV (zU (aH sig b) b)++[.d (.b (aH sig b))]):=by
 have f1:=dW sig b (by omega)
 refine cT Tryz.func128 (fun hw W0=>?_)
 cases hg:aH sig b
 ·rw [hg] at f1
  refine kgo ?_
  exact ik (hp:=.cons (.d rfl) (.cons .m (.cons .n (.cons (.d rfl) (.cons .n (.cons .n (.cons (.d rfl) .nil)))))))
 ·have f2:=nj b (bw hg) hl
  rw [hg] at f1
  refine kgo ?_
  exact ik (hp:=.cons (.d rfl) (.cons (.k rfl rfl) (.cons (.k rfl rfl) (.cons (.d rfl) (.cons (.k rfl rfl) (.cons (.k rfl rfl) (.cons (.d rfl) .nil)))))))
end Go.Proofs.YtnobdioccfeokaaGreatDoor
namespace Go.Proofs.YtnobdioccfeokaaGreatDoor
open Go.RowKit
set_option linter.unusedVariables false
set_option maxRecDepth 100000
set_option maxHeartbeats 4000000
attribute [local irreducible] ar Der At
theorem FnD.toL {P:Program} {f z e:Nat} {xs ds:List D} (h:FnD P f xs (.row z e ds)):FnD P f xs (.d (.l z ds)):=⟨h.enter,fun F w vs hv hF=>(h.calls F w vs hv hF).mono (by
 rintro e' w' ⟨v,rfl,hX,hr⟩
 refine ⟨v,rfl,hX,?_⟩
 rcases hr with ⟨hd,a0,hv⟩|⟨cells,h2,h3⟩
 ·subst hd
  exact ⟨a0,0,by rw [hv];rfl,Nat.le_refl _,by decide,fun _=>rfl,.inl rfl⟩
 have h1:(Tk.row z e ds).ok (Cx.of (fun b=>fresh w w' F b∧v.ownBlock≠some b)) w' v (fun b=>v.ownBlock=some b):=.inr ⟨cells,⟨h2.1,h2.2.imp _root_.id (fun ⟨g,cap,cur,q1,_,q2⟩=>⟨g,cap,cur,q1,Nat.zero_le _,q2⟩)⟩,fun g hg=>hg,h3⟩
 refine DV.keep (fun b hb=>?_) (fun _ _ _=>rfl) (cK h1)
 rcases hb with hb|hb
 ·exact hb.1
 ·rcases h2.2 with ⟨q3,_⟩|⟨g,cap,cur,q1,q2,q3,_⟩
  ·rw [q3] at hb;cases hb
  ·rw [q1] at hb;cases hb
   exact .inr ⟨q2,(Array.getElem?_eq_some_iff.1 q3).1⟩)⟩
def Pt.dat:Pt→D
 | .d r=>r
 | .tk (.row z _ ds)=>.l z ds
 | .tk (.deep z _ ds _)=>.l z ds
 | .tk (.own r _ _)=>r
 | .tk (.grw z _ ds)=>.l z ds
 | .tk _=>.i 0
theorem Pt.frz {w w':World} {F:BS} {T:Nat→BS} {p:Pt} {i:Nat} {u:Value} (hT:∀i b,T i b→w.heap.size≤b∧b<w'.heap.size) (h:p.ok w' (fun b=>fresh w w' F b∧∀j,¬T j b) (T i) u):DV w' (fresh w w' F) p.dat u:=by
 cases p with
 | d r=>exact DV.keep (fun b hb=>hb.1) (fun _ _ _=>rfl) h.2
 | tk t=>
  obtain ⟨hb,h⟩:=h
  cases t with
  | bx cs=>cases hb
  | mp m=>cases hb
  | abs p tag=>cases hb
  | bxs cs=>cases hb
  | bxt cs u=>cases hb
  | grw z e ds=>
   rcases h with ⟨hd,a0,hv⟩|⟨cells,U,h2,h3,h4,_,h6⟩
   ·subst hd
    exact ⟨a0,0,by rw [hv];rfl,Nat.le_refl _,by decide,fun _=>rfl,.inl rfl⟩
   ·have h1:(Tk.row z e ds).ok (Cx.of (T i)) w' u (T i):=.inr ⟨cells,h2,fun g hg=>(h3 g hg).1,fun j hj=>by
     obtain ⟨cs,q1,q2,q3⟩:=h6 j hj
     exact ⟨cs,q1,Rp.keep (fun b hb=>(h4 j b hb).1) (fun _ _ _=>rfl) _ _ (Ow.rp _ _ _ q2),q3⟩⟩
    exact DV.keep (fun b hb=>.inr (hT i b (hb.elim _root_.id _root_.id))) (fun _ _ _=>rfl) (cK h1)
  | own d pin tag=>
   have h1:=h.1
   cases d with
   | l z xs=>exact DV.keep (fun b hb=>.inr (hT i b hb)) (fun _ _ _=>rfl) (show DV _ _ (.l z xs) _ from Ow.rp _ _ _ h1)
   | _=>cases hb
  | row z e ds=>exact DV.keep (fun b hb=>hb.elim (fun h=>h.1) (fun h=>.inr (hT i b h))) (fun _ _ _=>rfl) (cK h)
  | deep z e ds ps=>
   rcases h with ⟨hd,_,a0,hv⟩|⟨cells,U,h2,h3,h4,_,h6,_⟩
   ·subst hd
    exact ⟨a0,0,by rw [hv];rfl,Nat.le_refl _,by decide,fun _=>rfl,.inl rfl⟩
   ·have h1:(Tk.row z e ds).ok (Cx.of (T i)) w' u (T i):=.inr ⟨cells,h2,fun g hg=>(h3 g hg).1,fun j hj=>by
     obtain ⟨cs,q1,q2,q3⟩:=h6 j hj
     exact ⟨cs,q1,Rp.keep (fun b hb=>(h4 j b hb).1) (fun _ _ _=>rfl) _ _ q2,q3⟩⟩
    exact DV.keep (fun b hb=>.inr (hT i b (hb.elim _root_.id _root_.id))) (fun _ _ _=>rfl) (cK h1)
theorem sk {w w':World} {F:BS} {T:Nat→BS} (hT:∀i b,T i b→w.heap.size≤b∧b<w'.heap.size):∀(ps:List Pt) (us:List Value) (m:Nat),us.length=ps.length→(∀(i:Nat) (p:Pt),ps[i]? = some p→∃u,us[i]? = some u∧p.ok w' (fun b=>fresh w w' F b∧∀j,¬T j b) (T (m+i)) u)→DVs w' (fresh w w' F) (ps.map Pt.dat) us:=by
 intro ps
 induction ps with
 | nil=>intro us m hl _;exact List.eq_nil_of_length_eq_zero hl
 | cons p ps ih=>
  intro us m hl h
  cases us with
  | nil=>simp at hl
  | cons u us=>
   obtain ⟨u',e1,h1⟩:=h 0 p rfl
   simp at e1
   subst e1
   exact ⟨_,_,rfl,Pt.frz hT h1,ih us (m+1) (by simpa using hl) (fun i p hp=>by
    have:=h (i+1) p (by simpa using hp)
    rw [show m+(i+1)=m+1+i by omega] at this
    simpa using this)⟩
theorem FnO.toD {P:Program} {f n:Nat} {xs:List D} {ps:List Pt} (h:FnO P f xs [n+1] ps) (hn:ps.length=n+1:=by rfl) (ht:((ps.map Pt.dat).all fun r=>!isT r)=true:=by rfl):FnD P f xs (.d (.t (ps.map Pt.dat))):=⟨h.enter,fun F w vs hv hF=>(h.calls F w vs hv hF).mono (by
 rintro e' w' ⟨us,T,rfl,hX,hl,hT,_,hel⟩
 have hd:=sk (F:=F) hT ps us 0 hl (fun i p hp=>by rw [Nat.zero_add];exact hel i p hp)
 refine ⟨_,rfl,hX,?_⟩
 show DV w' (fresh w w' F) (.t _) (FI (se [n+1] us))
 have:se [n+1] us = [.agg us.toArray]:=by
  unfold se se
  rw [List.take_of_length_le (by omega)]
 rw [this]
 exact ⟨us,rfl,uF _ _ ht hd⟩)⟩
theorem Ec {w:World} {S:BS}:∀(n:Nat) (ds:List D) (vs:List Value),DVs w S ds vs→DVs w S (ds.take n) (vs.take n)∧DVs w S (ds.drop n) (vs.drop n):=by
 intro n
 induction n with
 | zero=>intro ds vs h;simpa [DVs] using h
 | succ n ih=>
  intro ds vs h
  cases ds with
  | nil=>rw [show vs = [] from h];exact ⟨rfl,rfl⟩
  | cons r rs=>
   obtain ⟨v,t,rfl,h1,h2⟩:=h
   obtain ⟨h3,h4⟩:=ih rs t h2
   exact ⟨⟨v,_,rfl,h1,h3⟩,h4⟩
theorem FnO.toT {P:Program} {f n:Nat} {xs:List D} {ps:List Pt} {r:D} (h:FnO P f xs [n+1,0] (ps++[.d r])) (hn:ps.length=n+1:=by rfl) (ht:((ps.map Pt.dat).all fun r=>!isT r)=true:=by rfl):FnD P f xs (.tp [.t (ps.map Pt.dat),r]):=⟨h.enter,fun F w vs hv hF=>(h.calls F w vs hv hF).mono (by
 rintro e' w' ⟨us,T,rfl,hX,hl,hT,_,hel⟩
 have hd:=sk (F:=F) hT (ps++[.d r]) us 0 hl (fun i p hp=>by rw [Nat.zero_add];exact hel i p hp)
 have hlen:us.length=n+2:=by rw [hl];simp [hn]
 rw [List.map_append] at hd
 obtain ⟨h1,h2⟩:=Ec (n+1) _ _ hd
 rw [List.take_append_of_le_length (by simp [hn]),List.take_of_length_le (by simp [hn])] at h1
 rw [List.drop_append_of_le_length (by simp [hn]),List.drop_of_length_le (by simp [hn])] at h2
 obtain ⟨v,t,e1,h3,h4⟩:=h2
 cases (show t = [] from h4)
 refine ⟨_,rfl,hX,?_⟩
 have:se [n+1,0] us = [.agg (us.take (n+1)).toArray,v]:=by
  unfold se se se
  rw [e1];rfl
 rw [this]
 exact ⟨_,rfl,_,_,rfl,⟨_,rfl,uF _ _ ht h1⟩,_,_,rfl,h3,rfl⟩)⟩
theorem fP (b:Big) (hi:b.inner.length≤1000):FnD Tryz.prog 181 [b.D] (.row 1 9 ((b.inner.map Wr.name).map .s)):=by
 refine af Tryz.func181 (fun hw W0=>?_)
 refine kgo ?_
 refine ai [8,9] (fun i:Nat=>i≤b.inner.length) (fun i=>b.inner.length - i) (fun i=>[(3,.sy (.k 20001)),(20001,.tk (.row 1 9 (((b.inner.take i).map Wr.name).map .s))),(10,.sy (.d (.i i)))]) 0 (Nat.zero_le _) (fun i hi=>?_)
 refine kgo ?_
 refine aJ (fun h=>?_) (fun h=>?_)
 ·have hlt:i<b.inner.length:=by omega
  have hs:((b.inner.take (i+1)).map Wr.name).map D.s=((b.inner.take i).map Wr.name).map .s++[.s b.inner[i].name]:=by rw [List.take_succ_eq_append_getElem hlt,List.map_append,List.map_append];rfl
  refine kgo ?_
  exact aa (i+1) hlt (by omega)
 rw [List.take_of_length_le (by omega)]
 refine kgo ?_
 exact pJ
def iz (b:Big) (l:Int):Int × ByteArray:=if l<b.edges then (l,⟨#[]⟩) else (0,b.outer.getD (l - b.edges).toNat ⟨#[]⟩)
abbrev s8 (e:Int × ByteArray):D:=.t [.i e.1,.s e.2]
theorem AJ (b:Big) (l:Int) (h0:0≤b.edges∧b.edges≤1000) (h1:b.edges≤l→l - b.edges<b.outer.length) (ho:b.outer.length≤1000):FnD Tryz.prog 287 [b.D,.i l] (.d (s8 (iz b l))):=by
 refine af Tryz.func287 (fun hw W0=>?_)
 refine kgo ?_
 refine aJ (fun h=>?_) (fun h=>?_)
 ·rw [show iz b l=(l,⟨#[]⟩) from if_pos h]
  refine kgo ?_
  exact aj
 ·have h1:=h1 (by omega)
  obtain ⟨q,hq⟩:=Int.eq_ofNat_of_zero_le (show 0≤l - b.edges by omega)
  have hql:q<b.outer.length:=by omega
  rw [show iz b l=(0,b.outer[q]) from by unfold iz;rw [if_neg h,hq,Int.toNat_natCast];simp [hql]]
  refine kgo ?_
  refine cS (n:=q) (fun _=>?_) rfl rfl (congrArg some hq)
  refine kgo ?_
  exact aj
theorem Bd (e:Int × ByteArray):FnD Tryz.prog 322 [s8 e] (.d (s8 e)):=by
 refine af Tryz.func322 (fun hw W0=>?_)
 refine kgo ?_
 exact aj
theorem lV (s:ByteArray):(s.toList == (ByteArray.mk #[]).toList)=true↔s=⟨#[]⟩:=by
 rw [beq_iff_eq,ByteArray.toList_eq,ByteArray.toList_eq]
 constructor
 ·intro h
  exact ByteArray.ext (Array.ext' (by simpa using h))
 ·rintro rfl;rfl
theorem uo (b:Big) (g:Nat) (cs:List D) (e r:Int × ByteArray) (hct:(cs.all fun r=>!isT r)=true) (he : -1000≤e.1∧e.1≤1000) (hb:0≤b.edges∧b.edges≤1000) (hg:¬e.2=⟨#[]⟩→FnD Tryz.prog g ([.s e.2]++cs) (.d (s8 r))):FnD Tryz.prog 323 [s8 e,.p b.D,.p (.f g cs)] (.d (s8 (if e.2=⟨#[]⟩ then (e.1+b.edges,⟨#[]⟩) else r))):=by
 refine af Tryz.func323 (fun hw W0=>?_)
 refine kgo ?_
 refine cIf (fun h=>?_) (fun h=>?_)
 ·rw [if_pos ((lV _).1 h)]
  refine kgo ?_
  exact aj
 ·have h:¬e.2=⟨#[]⟩:=fun e=>by rw [(lV _).2 e] at h;cases h
  rw [if_neg h]
  have hg:=hg h
  refine kgo ?_
  exact aj
theorem B3 (b:Big) (p y:Int) (g:Nat) (cs:List D) (hct:(cs.all fun r=>!isT r)=true) (hp:p≤1000) (hn:b.nodes.length≤1000) (hg:p<0→FnD Tryz.prog g ([.i p]++cs) (.d (.i y))):FnD Tryz.prog 324 [b.D,.i p,.f g cs] (.d (.i (if 0≤p then p+b.nodes.length else y))):=by
 refine af Tryz.func324 (fun hw W0=>?_)
 refine kgo ?_
 refine aJ (fun h=>?_) (fun h=>?_)
 ·rw [if_pos h]
  refine kgo ?_
  exact aj
 ·rw [if_neg h]
  have hg:=hg (by omega)
  refine kgo ?_
  exact aj
theorem oV (a:Big) (p:Int) (hp:0≤-1 - p∧-1 - p<a.sites.length) (hs:a.sites.length≤1000):FnD Tryz.prog 285 [.i p,.p a.D] (.d (.i (atI a.sites (-1 - p)))):=by
 refine af Tryz.func285 (fun hw W0=>?_)
 refine kgo ?_
 exact aj
theorem ng (l:List ByteArray) (g:Nat) (cs:List D) (p:ByteArray→Bool) (hct:(cs.all fun r=>!isT r)=true) (hp:∀x∈l,FnD Tryz.prog g ([.s x]++cs) (.d (.b (p x)))):FnD Tryz.prog 249 [DS l,.f g cs] (.d (.i (nK p l))):=by
 refine af Tryz.func249 (fun hw W0=>?_)
 have hl:=(wfM hw.1).1
 refine kgo ?_
 refine ai [0,1,7] (fun i:Nat=>i≤l.length∧(l.take i).any p=false) (fun i=>l.length - i) (fun i=>[(8,.sy (.d (.i i)))]) 0 ⟨Nat.zero_le _,rfl⟩ (fun i hi=>?_)
 refine kgo ?_
 refine aJ (fun h=>?_) (fun h=>?_)
 ·have hlt:i<l.length:=by omega
  have f1:=hp _ (List.getElem_mem hlt)
  refine kgo ?_
  refine cIf (fun h2=>?_) (fun h2=>?_)
  ·refine kgo ?_
   rw [mO hlt h2 hi.2]
   exact aj
  ·refine kgo ?_
   exact aa (i+1) ⟨hlt,km hlt hi.2 h2⟩ (by omega)
 refine kgo ?_
 rw [lv (mP (by omega) hi.2)]
 exact aj
theorem oT (l:List ByteArray) (g:Nat) (cs:List D) (p:ByteArray→Bool) (hct:(cs.all fun r=>!isT r)=true) (hp:∀x∈l,FnD Tryz.prog g ([.s x]++cs) (.d (.b (p x)))):FnD Tryz.prog 281 [DS l,.f g cs] (.d (.b (l.any p))):=by
 refine af Tryz.func281 (fun hw W0=>?_)
 have f1:=ng l g cs p hct hp
 have hr:=eh p l
 have hq:=ku p l
 refine kgo ?_
 rw [← hq]
 exact aj
theorem ro (l:List ByteArray) (s:ByteArray):FnD Tryz.prog 282 [.s s,.p (DS l)] (.d (.b (qc l s))):=by
 refine af Tryz.func282 (fun hw W0=>?_)
 have f1:=lc l s
 refine kgo ?_
 exact aj
theorem nr (a c:List ByteArray):FnD Tryz.prog 250 [DS a,DS c] (.d (.b (a.any (qc c)))):=by
 refine af Tryz.func250 (fun hw W0=>?_)
 have f1:=oT a 282 [.p (DS c)] (qc c) rfl (fun x _=>ro c x)
 refine kgo ?_
 refine rY 3 (DS c) ?_
 refine kgo ?_
 exact aj
theorem xl (a c:List ByteArray):FnD Tryz.prog 171 [DS a,DS c] (.d (.b (eqS a c))):=by
 refine af Tryz.func171 (fun hw W0=>?_)
 have hl:=(wfM hw.1).1
 have hl2:=(wfM hw.2.1).1
 refine kgo ?_
 refine cIf (fun h=>?_) (fun h=>?_)
 ·have h:¬(a.length:Int)=c.length:=by simpa using h
  refine kgo ?_
  rw [ve h]
  exact aj
 have hlen:(a.length:Int)=c.length:=by simpa using h
 refine kgo ?_
 refine ai [0,1,12] (fun i:Nat=>i≤a.length∧(List.range i).all (mt a c)=true) (fun i=>a.length - i) (fun i=>[(13,.sy (.d (.i i)))]) 0 ⟨Nat.zero_le _,rfl⟩ (fun i hi=>?_)
 refine kgo ?_
 refine aJ (fun h=>?_) (fun h=>?_)
 ·have hlt:i<a.length:=by omega
  have hlt2:i<c.length:=by omega
  have hs:=mn a c i hlt hlt2
  refine kgo ?_
  refine cIf (fun h3=>?_) (fun h3=>?_)
  ·refine kgo ?_
   rw [vZ (c:=c) i hlt (by rw [hs];simpa using h3)]
   exact aj
  ·refine kgo ?_
   exact aa (i+1) ⟨hlt,by rw [cL,hi.2,hs];simpa using h3⟩ (by omega)
 refine kgo ?_
 rw [show eqS a c=true from by unfold eqS;rw [fC _ _ i (by omega) hi.1 hi.2,Bool.and_true];exact decide_eq_true (by omega)]
 exact aj
theorem Is (a b:Big) (hi:a.inner.length≤1000):FnD Tryz.prog 252 [a.D,b.D] (.d (.b (decide ((a.sites.length:Int)=b.roots) && eqS (a.inner.map Wr.name) b.outer))):=by
 have f1:=(fP a hi).toL
 have f2:=xl (a.inner.map Wr.name) b.outer
 refine af Tryz.func252 (fun hw W0=>?_)
 refine kgo ?_
 cases hd:decide ((a.sites.length:Int)=b.roots)
 ·refine kgo ?_
  exact aj
 ·refine kgo ?_
  exact aj
theorem w4 {α:Type} (f:Nat→α) (i:Nat):(List.range (i+1)).map f=(List.range i).map f++[f i]:=by rw [List.range_succ,List.map_append];rfl
theorem ye (n:Nat) (l:List ByteArray) (hn:n≤1000) (hl:l.length≤1000):FnD Tryz.prog 214 [.i n,DS l] (.d (Big.D ⟨n,[],((List.range n).map fun i:Nat=>-1 - (i:Int)),0,l,(List.range l.length).map fun i:Nat=>⟨l.getD i ⟨#[]⟩,i⟩⟩)):=by
 have f1:=nT l hl
 refine af Tryz.func214 (fun hw W0=>?_)
 refine kgo ?_
 refine oH 10005 1 20001 153 ?_
 refine oH 10005 2 20002 3 ?_
 refine oH 10005 5 20005 155 ?_
 refine ai [1,4,5,13,10011,20001,20005] (fun i:Nat=>i≤n) (fun i=>n - i) (fun i=>[(14,.sy (.d (.i i))),(10005,.tk (.bx [.d (.i n),.k 20001,.k 20002,.d (.i 0),.k 10011,.k 20005])),(20002,.tk (.row 1 3 (((List.range i).map fun i:Nat=>-1 - (i:Int)).map .i)))]) 0 (Nat.zero_le _) (fun i hi=>?_)
 refine kgo ?_
 refine aJ (fun h=>?_) (fun h=>?_)
 ·have hlt:i<n:=by omega
  have hs:((List.range (i+1)).map fun i:Nat=>-1 - (i:Int)).map D.i=((List.range i).map fun i:Nat=>-1 - (i:Int)).map D.i++[.i (-1 - i)]:=by rw [w4,List.map_append];rfl
  have hr:=List.length_range (n:=i)
  refine kgo ?_
  exact aa (i+1) hlt (by omega)
 obtain rfl:i=n:=by omega
 refine kgo ?_
 refine ai [4,5,25,26,10011,20001,20002] (fun j:Nat=>j≤l.length) (fun j=>l.length - j) (fun j=>[(27,.sy (.d (.i j))),(10005,.tk (.bx [.d (.i i),.k 20001,.k 20002,.d (.i 0),.k 10011,.k 20005])),(20005,.tk (.row 2 155 (((List.range j).map fun i:Nat=>(⟨l.getD i ⟨#[]⟩,i⟩:Wr)).map Wr.D)))]) 0 (Nat.zero_le _) (fun j hj=>?_)
 refine kgo ?_
 refine aJ (fun h=>?_) (fun h=>?_)
 ·have hlt:j<l.length:=by omega
  have hs:((List.range (j+1)).map fun i:Nat=>(⟨l.getD i ⟨#[]⟩,i⟩:Wr)).map Wr.D=((List.range j).map fun i:Nat=>(⟨l.getD i ⟨#[]⟩,i⟩:Wr)).map Wr.D++[Wr.D ⟨l[j],j⟩]:=by rw [w4,List.map_append];simp [hlt]
  have hr:=List.length_range (n:=j)
  refine kgo ?_
  exact aa (j+1) hlt (by omega)
 obtain rfl:j=l.length:=by omega
 refine br (aA (aA (bt (bo ?_))))
 refine pI 10005 1 ?_
 refine pI 10005 2 ?_
 refine pI 10005 4 ?_
 refine pI 10005 5 ?_
 refine kgo ?_
 exact aj
end Go.Proofs.YtnobdioccfeokaaGreatDoor
namespace Go.Proofs.YtnobdioccfeokaaGreatDoor
open Go.RowKit
set_option linter.unusedVariables false
set_option linter.unusedSimpArgs false
mutual
def xH:D→Bool
 | .i _=>true
 | .s _=>true
 | .b _=>true
 | .n _=>true
 | .any=>true
 | .c _=>true
 | .t ds=>GE ds
 | _=>false
def GE:List D→Bool
 | []=>true
 | d :: ds=>xH d && GE ds
end
mutual
theorem Ck {w:World} {S S':BS}:∀(d:D) (cs:List Value),xH d=true→Rp w S d cs→Rp w S' d cs
 | .i _,cs,_,r=>r
 | .s _,cs,_,r=>r
 | .b _,cs,_,r=>r
 | .n _,cs,_,r=>r
 | .any,cs,_,r=>r
 | .c _,cs,_,r=>r
 | .t ds,cs,h,r=>ws ds cs h r
 | .l _ _,_,h,_=>by cases h
 | .p _,_,h,_=>by cases h
 | .f _ _,_,h,_=>by cases h
theorem ws {w:World} {S S':BS}:∀(ds:List D) (cs:List Value),GE ds=true→RpL w S ds cs→RpL w S' ds cs
 | [],cs,_,r=>r
 | d :: ds,cs,h,⟨c,e,h1,h2,h3⟩=>by
  have h':(xH d && GE ds)=true:=h
  rw [Bool.and_eq_true] at h'
  exact ⟨c,e,h1,Ck d c h'.1 h2,ws ds e h'.2 h3⟩
end
theorem Fh {w:World} {S S':BS} {d:D} {v:Value} (h:xH d=true) (r:DV w S d v):DV w S' d v:=by
 cases d with
 | t ds=>obtain ⟨cs,h1,h2⟩:=r;exact ⟨cs,h1,ws ds cs h h2⟩
 | _=>exact Ck (S:=S) _ _ h r
def F3:Pt→Prop
 | .d r=>xH r=true
 | .tk (.row _ _ ds)=>∀d∈ds,xH d=true
 | .tk (.deep _ _ _ _)=>True
 | .tk (.own _ _ _)=>True
 | .tk (.grw _ _ _)=>True
 | _=>False
theorem Ek {w:World} {G G' S:BS} {p:Pt} {u:Value} (hp:F3 p) (h:p.ok w G S u):p.ok w G' S u:=by
 cases p with
 | d r=>exact ⟨h.1,Fh hp h.2⟩
 | tk t=>
  obtain ⟨hb,h⟩:=h
  refine ⟨hb,?_⟩
  cases t with
  | bx cs=>cases hb
  | mp m=>cases hb
  | abs p tag=>cases hb
  | bxs cs=>cases hb
  | bxt cs u=>cases hb
  | grw z e ds=>exact h
  | own d pin tag=>exact h
  | deep z e ds ps=>exact h
  | row z e ds=>
   rcases h with h|⟨cells,h1,h2,h3⟩
   ·exact .inl h
   ·exact .inr ⟨cells,h1,h2,fun j hj=>by
     obtain ⟨cs,q1,q2,q3⟩:=h3 j hj
     exact ⟨cs,q1,Ck _ _ (hp _ (List.getElem_mem hj)) q2,q3⟩⟩
def tb (c:Cx) (σ:Env):BS:=fun b=>c.F b∨∃i t,al σ i=some (.tk t)∧c.T i b
def Er:Option In→Option D
 | some (.tk (.row z _ ds))=>some (.l z ds)
 | some (.tk (.deep z _ ds _))=>some (.l z ds)
 | some (.tk (.own (.l z ds) _ _))=>some (.l z ds)
 | some (.tk (.grw z _ ds))=>some (.l z ds)
 | _=>none
def An (σ:Env):List Sy→Option (List D)
 | []=>some []
 | s :: ss=>match (match s with | .k i=>Er (al σ i) | .d r=>(match isT r with|true=>none|false=>some r)|_=>none),An σ ss with
  | some r,some rs=>some (r :: rs)
  | _,_=>none
def ID (σ:Env):Sy→Option D
 | .k i=>Er (al σ i)
 | .ag ss=>(An σ ss).map .t
 | s=>s.arg
def GN:Sy→List Nat
 | .k i=>[i]
 | .ag ss=>cP ss
 | _=>[]
def Ij (σ:Env):List Operand→Option (List D)
 | []=>some []
 | x :: xs=>match (ev σ x).bind (ID σ),Ij σ xs with
  | some r,some rs=>some (r :: rs)
  | _,_=>none
def DC (σ:Env):List Operand→List Nat
 | []=>[]
 | x :: xs=>kx x++((((ev σ x).map GN).getD [])++DC σ xs)
theorem xv {W0:cz} {N:Nat} {a:Act} {w:World} {c:Cx} {σ:Env} (h:aE W0 N σ a w c) {i:Nat} {r:D} (hr:Er (al σ i)=some r):isT r=false∧DV w (tb c σ) r (c.ρ i):=by
 cases hl:al σ i with
 | none=>rw [hl] at hr;cases hr
 | some x=>
  rw [hl] at hr
  cases x with
  | sy s=>cases hr
  | no=>cases hr
  | tk t=>
   obtain ⟨hA,hT,_⟩:=h.tok i t hl
   cases t with
   | bx cs=>cases hr
   | mp m=>cases hr
   | abs p tag=>cases hr
   | bxs cs=>cases hr
   | bxt cs u=>cases hr
   | grw z e ds=>
    cases hr
    refine ⟨rfl,?_⟩
    rcases hT with ⟨hd,a0,hv⟩|⟨cells,U,h2,h3,h4,_,h6⟩
    ·subst hd
     exact ⟨a0,0,by rw [hv];rfl,Nat.le_refl _,by decide,fun _=>rfl,.inl rfl⟩
    ·have h1:(Tk.row z e ds).ok (Cx.of (c.T i)) w (c.ρ i) (c.T i):=.inr ⟨cells,h2,fun g hg=>(h3 g hg).1,fun j hj=>by
      obtain ⟨cs,q1,q2,q3⟩:=h6 j hj
      exact ⟨cs,q1,Rp.keep (fun b hb=>(h4 j b hb).1) (fun _ _ _=>rfl) _ _ (Ow.rp _ _ _ q2),q3⟩⟩
     exact DV.keep (fun b hb=>.inr ⟨i,_,hl,hb.elim _root_.id _root_.id⟩) (fun _ _ _=>rfl) (cK h1)
   | own d pin tag=>
    cases d with
    | l z ds=>
     cases hr
     exact ⟨rfl,DV.keep (fun b hb=>.inr ⟨i,_,hl,hb⟩) (fun _ _ _=>rfl) (show DV _ _ (.l z ds) _ from Ow.rp _ _ _ hT.1)⟩
    | _=>cases hr
   | row z e ds=>
    cases hr
    exact ⟨rfl,DV.keep (fun b hb=>hb.elim .inl (fun hb=>.inr ⟨i,_,hl,hb⟩)) (fun _ _ _=>rfl) (cK hT)⟩
   | deep z e ds ps=>
    cases hr
    refine ⟨rfl,?_⟩
    rcases hT with ⟨hd,_,a0,hv⟩|⟨cells,U,h2,h3,h4,_,h6,_⟩
    ·subst hd
     exact ⟨a0,0,by rw [hv];rfl,Nat.le_refl _,by decide,fun _=>rfl,.inl rfl⟩
    ·have h1:(Tk.row z e ds).ok (Cx.of (c.T i)) w (c.ρ i) (c.T i):=.inr ⟨cells,h2,fun g hg=>(h3 g hg).1,fun j hj=>by
      obtain ⟨cs,q1,q2,q3⟩:=h6 j hj
      exact ⟨cs,q1,Rp.keep (fun b hb=>(h4 j b hb).1) (fun _ _ _=>rfl) _ _ q2,q3⟩⟩
     exact DV.keep (fun b hb=>.inr ⟨i,_,hl,hb.elim _root_.id _root_.id⟩) (fun _ _ _=>rfl) (cK h1)
theorem Hw {w:World} {S:BS} {r:D} {v:Value} (h:isT r=false) (hv:DV w S r v):Rp w S r [v]:=by
 cases r with
 | t ds=>cases h
 | _=>exact hv
theorem DB {W0:cz} {N:Nat} {a:Act} {w:World} {c:Cx} {σ σ':Env} (h:aE W0 N σ' a w c):∀(ss:List Sy) (rs:List D) (vs:List Value),An σ ss=some rs→(∀κ∈cP ss,al σ' κ=al σ κ)→Sy.oks c w ss vs→RpL w (tb c σ') rs vs:=by
 intro ss
 induction ss with
 | nil=>intro rs vs hr _ hv;cases hr;exact hv
 | cons s ss ih=>
  intro rs vs hr hk hv
  obtain ⟨y,t,rfl,hy,ht⟩:=hv
  unfold An at hr
  split at hr
  ·rename_i r rs' h1 h2
   cases hr
   refine ⟨[y],t,rfl,?_,ih rs' t h2 (fun κ hκ=>hk κ (by cases s <;> simp [cP,kSy,hκ])) ht⟩
   split at h1
   ·rename_i i
    rw [← hk i (by simp [cP,kSy])] at h1
    obtain ⟨q1,q2⟩:=xv h h1
    rw [hy.2]
    exact Hw q1 q2
   ·rename_i r'
    split at h1
    ·cases h1
    ·rename_i hT
     cases h1
     exact Hw hT (DV.keep (fun b hb=>.inl hb) (fun _ _ _=>rfl) hy)
   ·cases h1
  ·cases hr
theorem DN {W0:cz} {N:Nat} {a:Act} {w:World} {c:Cx} {σ σ':Env} (h:aE W0 N σ' a w c) {s:Sy} {r:D} (hr:ID σ s=some r) (hk:∀κ∈GN s,al σ' κ=al σ κ) {v:Value} (hv:s.ok c w v):DV w (tb c σ') r v:=by
 have other:s.arg=some r→DV w (tb c σ') r v:=fun h1=>DV.keep (fun b hb=>.inl hb) (fun _ _ _=>rfl) (Ax h1 hv)
 cases s with
 | k i=>
  have hr':Er (al σ i)=some r:=hr
  rw [← hk i (by simp [GN])] at hr'
  rw [hv.2]
  exact (xv h hr').2
 | ag ss=>
  have hr':(An σ ss).map D.t=some r:=hr
  rw [Option.map_eq_some_iff] at hr'
  obtain ⟨rs,h1,rfl⟩:=hr'
  obtain ⟨vs,rfl,h2⟩:=hv
  exact ⟨vs,rfl,DB h ss rs vs h1 hk h2⟩
 | _=>exact other hr
theorem Af {W0:cz} {N:Nat} {a:Act} {w:World} {c:Cx} {σ σ':Env} (h:aE W0 N σ' a w c):∀(xs:List Operand) (ds:List D),Ij σ xs=some ds→(∀κ∈DC σ xs,al σ' κ=al σ κ)→DVs w (tb c σ') ds (xs.map a.eval):=by
 intro xs
 induction xs with
 | nil=>intro ds he _;cases he;exact rfl
 | cons x xs ih=>
  intro ds he hk
  unfold Ij at he
  split at he
  ·rename_i r rs h1 h2
   cases he
   rw [Option.bind_eq_some_iff] at h1
   obtain ⟨s,h3,h4⟩:=h1
   refine ⟨_,_,rfl,DN h h4 (fun κ hκ=>hk κ ?_) (ap h (ah h3 (fun κ hκ=>hk κ (by simp [DC,hκ])))),ih rs h2 (fun κ hκ=>hk κ (by simp [DC,hκ]))⟩
   simp [DC,h3,hκ]
  ·cases he
theorem Ab {W0:cz} {N:Nat} {a:Act} {w:World} {c:Cx} {σ:Env} (h:aE W0 N σ a w c):∀b,tb c σ b→b<w.heap.size:=fun b hb=>hb.elim (h.lt b) (fun ⟨i,t,hi,hT⟩=>((h.tok i t hi).2.2 b hT).2.1)
section
variable {P:Program} {ops:Array Oper} {W0:cz} {N:Nat} {Fin:Us→Env→Prop} {os:List Oper} {us:Us} {pk fk:List Nat} {σ:Env} {g:Option (Nat × Bool)} {gk:List Nat} {d ty ty' f:Nat} {pos:String} {after:Array Edge} {at':Array TypeId} {xs:List Operand} {ds:List D}
theorem lF {r:D} (h:Der P ops W0 N Fin os (us++[((d :: (gk++DC σ xs))++pk,([d])++fk)]) [] [] ((d,.sy (.d r)) :: σ)) (hx:Ij σ xs=some ds:=by rfl) (hf:FnD P f ds (.d r):=by assumption) (hr:xH r=true:=by rfl) (hg:gst ops σ g=some (true,gk):=by rfl) (hN:Nat.blt d N=true:=by rfl) (hs:aF σ d=true:=by rfl):Der P ops W0 N Fin (⟨some d,.call { callee:=.value (.func f),args:=xs.toArray,argTypes:=at' },ty,pos,after,g⟩ :: os) us pk fk σ:=
 jy (.d r) (DC σ xs) [] (fun σ' c a w hk hc=>by
  unfold Oper.wp
  rw [cw hf.enter rfl]
  refine (hf.calls (tb c σ') w _ (Af hc xs ds hx hk) (Ab hc)).mono ?_
  rintro e w' ⟨v,rfl,hX,hv⟩
  exact ⟨v,_,rfl,hc.fresh hX,Fh hr hv⟩) h hg hN hs rfl
theorem AX {sh:List Nat} {ps:List Pt} (hp:∀p∈ps,F3 p) (h:Der P ops W0 N Fin os (us++[((d :: (gk++(((List.range ps.length).map fun k=>30000+1000 * k+d)++DC σ xs)))++pk,(d :: (nE d 0 ps).map Prod.fst)++fk)]) [] [] ((d,.sy (FT (EC sh (C2 d 0 ps)))) :: (nE d 0 ps++σ))) (hx:Ij σ xs=some ds:=by rfl) (hf:FnO P f ds sh ps:=by assumption) (hi:((List.range ps.length).all fun k=>(al σ (30000+1000 * k+d)).isNone)=true:=by rfl) (hg:gst ops σ g=some (true,gk):=by rfl) (hN:Nat.blt d N=true:=by rfl) (hs:aF (nE d 0 ps++σ) d=true:=by rfl) (hu:(nE d 0 ps).all (fun p=>!(Nat.beq p.1 d))=true:=by rfl):Der P ops W0 N Fin (⟨some d,.call { callee:=.value (.func f),args:=xs.toArray,argTypes:=at' },ty,pos,after,g⟩ :: os) us pk fk σ:=
 jy (FT (EC sh (C2 d 0 ps))) (((List.range ps.length).map fun k=>30000+1000 * k+d)++DC σ xs) (nE d 0 ps) (fun σ' c a w hk hc=>by
  unfold Oper.wp
  rw [cw hf.enter rfl]
  refine (hf.calls (tb c σ') w _ (Af hc xs ds hx (fun κ hκ=>hk κ (by simp [hκ]))) (Ab hc)).mono ?_
  rintro e' w' ⟨vs,T,rfl,hX,hl,hT,hdis,hel⟩
  have hc1:=hc.grow hX (fun b=>fresh w w' c.F b∧∀j,¬T j b) (fun b hb=>⟨.inl hb,fun j e=>by have:=hc.lt b hb;have e2:w.heap.size≤b:=(hT j b e).1;omega⟩) (fun _ h=>h.1.imp id (fun h=>h.1)) (fun b hb=>hb.1.elim (fun h'=>Nat.lt_of_lt_of_le (hc.lt b h') (Below.size hX)) (fun h=>h.2))
  obtain ⟨c',h1,h2,h3,h4,h5⟩:=oz hc1 d w.heap.size T hc.ext.size (fun j u hj b hb=>((hc.tok j u hj).2.2 b hb).2.1) (fun i b hb=>⟨fun hF=>hF.2 i hb,hT i b hb⟩) hdis ps 0 vs (fun k=>by
   rcases Nat.lt_or_ge k ps.length with hk'|hk'
   ·left
    rw [Nat.zero_add,hk _ (List.mem_append_left _ (List.mem_map.2 ⟨k,List.mem_range.2 hk',rfl⟩))]
    have:=List.all_eq_true.1 hi k (List.mem_range.2 hk')
    simpa using this
   ·exact .inr hk') hl (fun k p hp'=>by
    rw [Nat.zero_add]
    obtain ⟨u,q1,q2⟩:=hel k p hp'
    exact ⟨u,q1,Ek (hp p (List.mem_of_getElem? hp')) q2⟩)
  exact ⟨_,c',rfl,h1,vc _ _ (Cg sh _ _ h5)⟩) h hg hN hs hu
end
end Go.Proofs.YtnobdioccfeokaaGreatDoor
namespace Go.Proofs.YtnobdioccfeokaaGreatDoor
open Go.RowKit
set_option linter.unusedVariables false
set_option linter.unusedSimpArgs false
mutual
def Fp:D→Bool
 | .any=>false
 | .c _=>false
 | .t ds=>BO ds
 | _=>true
def BO:List D→Bool
 | []=>true
 | d :: ds=>Fp d && BO ds
end
theorem Ow.mono {w:World} {d:D} {T T':BS} {cs:List Value} (h:Ow w d T cs) (hT:∀b,T b→T' b):Ow w d T' cs:=Ow.keep (Nat.le_refl _) d T T' cs hT (fun _ _ _=>rfl) h
theorem OwL.mono {w:World} {ds:List D} {T T':BS} {cs:List Value} (h:OwL w ds T cs) (hT:∀b,T b→T' b):OwL w ds T' cs:=OwL.keep (Nat.le_refl _) ds T T' cs hT (fun _ _ _=>rfl) h
mutual
def Gf:D→List D
 | .t ds=>IU ds
 | d=>[d]
def IU:List D→List D
 | []=>[]
 | d :: ds=>Gf d++IU ds
end
theorem OwL.split {w:World}:∀(xs ys:List D) (V:BS) (cs:List Value),OwL w (xs++ys) V cs→∃(T1 T2:BS) (c e:List Value),(∀x,T1 x→V x)∧(∀x,T2 x→V x)∧(∀x,T1 x→¬T2 x)∧cs=c++e∧OwL w xs T1 c∧OwL w ys T2 e:=by
 intro xs
 induction xs with
 | nil=>exact fun ys V cs h=>⟨fun _=>False,V,[],cs,fun _ h=>h.elim,fun _ h=>h,fun _ h=>h.elim,rfl,rfl,h⟩
 | cons d xs ih=>
  intro ys V cs ⟨T1,T2,c,e,h1,h2,h3,h4,h5,h6⟩
  obtain ⟨U1,U2,c',e',k1,k2,k3,k4,k5,k6⟩:=ih ys T2 e h6
  refine ⟨fun x=>T1 x∨U1 x,U2,c++c',e',fun x hx=>hx.elim (h1 x) (fun h=>h2 x (k1 x h)),fun x hx=>h2 x (k2 x hx),fun x hx hu=>hx.elim (fun h=>h3 x h (k2 x hu)) (fun h=>k3 x h hu),by rw [h4,k4,List.append_assoc],⟨T1,U1,c,c',fun _ h=>.inl h,fun _ h=>.inr h,fun x h hu=>h3 x h (k1 x hu),rfl,h5,k5⟩,k6⟩
mutual
theorem xu {w:World}:∀(d:D) (V:BS) (cs:List Value),OwL w (Gf d) V cs→Ow w d V cs
 | .t ds,V,cs,h=>A5 ds V cs h
 | .i n,V,cs,h=>l9 h
 | .s n,V,cs,h=>l9 h
 | .b n,V,cs,h=>l9 h
 | .n z,V,cs,h=>l9 h
 | .l z xs,V,cs,h=>l9 h
 | .p d,V,cs,h=>l9 h
 | .f g ds,V,cs,h=>l9 h
 | .any,V,cs,h=>l9 h
 | .c _,V,cs,h=>l9 h
theorem A5 {w:World}:∀(ds:List D) (V:BS) (cs:List Value),OwL w (IU ds) V cs→OwL w ds V cs
 | [],V,cs,h=>h
 | d :: ds,V,cs,h=>by
  obtain ⟨T1,T2,c,e,h1,h2,h3,h4,h5,h6⟩:=OwL.split (Gf d) (IU ds) V cs h
  exact ⟨T1,T2,c,e,h1,h2,h3,h4,xu d T1 c h5,A5 ds T2 e h6⟩
theorem l9 {w:World} {d:D} {V:BS} {cs:List Value} (h:OwL w [d] V cs):Ow w d V cs:=by
 obtain ⟨T1,T2,c,e,h1,h2,h3,h4,h5,h6⟩:=h
 have:e = []:=h6
 subst this
 rw [List.append_nil] at h4
 subst h4
 exact h5.mono h1
end
theorem pj {w:World}:∀(es:List D) (vs:List Value) (T:Nat→BS),vs.length=es.length→(∀(i:Nat) (d:D),es[i]? = some d→∃u,vs[i]? = some u∧Ow w d (T i) [u])→(∀i j,i≠j→∀b,T i b→¬T j b)→OwL w es (fun b=>∃i,T i b) vs:=by
 intro es
 induction es with
 | nil=>exact fun vs T h _ _=>List.eq_nil_of_length_eq_zero h
 | cons d es ih=>
  intro vs T hl h hoff
  cases vs with
  | nil=>simp at hl
  | cons v vs=>
   obtain ⟨u,h1,h2⟩:=h 0 d (by simp)
   simp at h1
   subst h1
   have h3:=ih vs (fun i=>T (i+1)) (by simpa using hl) (fun i d' hi=>by
    obtain ⟨u,q1,q2⟩:=h (i+1) d' (by simpa using hi)
    exact ⟨u,by simpa using q1,q2⟩) (fun i j hij=>hoff (i+1) (j+1) (by omega))
   exact ⟨T 0,fun b=>∃i,T (i+1) b,[v],vs,fun _ h=>⟨0,h⟩,fun _ ⟨i,h⟩=>⟨i+1,h⟩,fun b h0 ⟨i,h⟩=>hoff 0 (i+1) (by omega) b h0 h,rfl,h2,h3⟩
theorem JD {w w':World} {V:BS} (hsz:w.heap.size≤w'.heap.size):∀(ds:List D) (n:Nat) (U:BS) (z b o:Nat) (r:D) (cs':List Value),OwR w ds U z b o→n<ds.length→(∀c,U c→c<w.heap.size→w'.heap[c]? = w.heap[c]?)→(∀j,j<o+n * z∨o+n * z+z≤j→w'.cell? ⟨b,j,none⟩=w.cell? ⟨b,j,none⟩)→Ow w' r V cs'→cs'.length=z→bA w' b (o+n * z) cs'→(∀c,V c→¬U c)→OwR w' (ds.set n r) (fun x=>U x∨V x) z b o
 | [],n,U,z,b,o,r,cs',h,hn,_,_,_,_,_,_=>absurd hn (Nat.not_lt_zero _)
 | d :: ds,0,U,z,b,o,r,cs',⟨U1,U2,h1,h2,h3,⟨cs,h4,h5,h6⟩,h7⟩,hn,hag,hc,hr,hl,hca,hV=>by
  rw [Nat.zero_mul,Nat.add_zero] at hc hca
  exact ⟨V,U2,fun _ h=>.inr h,fun x h=>.inl (h2 x h),fun x hv hu=>hV x hv (h2 x hu),⟨cs',hl,hr,hca⟩,OwR.keep2 hsz ds U2 z b (o+z) (fun c hcu hcl=>hag c (h2 c hcu) hcl) (fun j hj=>hc j (.inr hj)) h7⟩
 | d :: ds,n+1,U,z,b,o,r,cs',⟨U1,U2,h1,h2,h3,⟨cs0,h4,h5,h6⟩,h7⟩,hn,hag,hc,hr,hl,hca,hV=>by
  have e:o+z+n * z=o+(n+1) * z:=by rw [Nat.succ_mul];omega
  have hz:z≤(n+1) * z:=Nat.le_mul_of_pos_left z (Nat.succ_pos n)
  refine ⟨U1,fun x=>U2 x∨V x,fun x h=>.inl (h1 x h),fun x h=>h.imp (h2 x) id,fun x hx hu=>hu.elim (h3 x hx) (fun hv=>hV x hv (h1 x hx)),⟨cs0,h4,Ow.keep hsz d U1 U1 cs0 (fun _ h=>h) (fun c hcu hcl=>hag c (h1 c hcu) hcl) h5,fun j u hj=>?_⟩,JD hsz ds n U2 z b (o+z) r cs' h7 (by simpa using hn) (fun c hcu hcl=>hag c (h2 c hcu) hcl) (fun j hj=>hc j (by rw [e] at hj;exact hj)) hr hl (by rw [e];exact hca) (fun c hv hu=>hV c hv (h2 c hu))⟩
  have hj':=(List.getElem?_eq_some_iff.1 hj).1
  exact (hc (o+j) (.inl (by omega))).trans (h6 j u hj)
theorem aE.eatM {W0:cz} {N:Nat} {σ:Env} {a:Act} {w w':World} {c:Cx} (h:aE W0 N σ a w c) {i:Nat} {t u:Tk} (ks:List Nat) (hi:al σ i=some (.tk t)) (hks:∀κ∈ks,κ≠i∧∃t,al σ κ=some (.tk t)) (hg:Chg (c.T i) w w') (hu:fR c.F w w'→u.ok c w' (c.ρ i) (fun b=>c.T i b∨∃κ,κ∈ks∧c.T κ b)) :
 aE W0 N (((i,.tk u) :: ks.map fun κ=>(κ,.no))++σ) a w' { c with T:=fun j=>if j=i then (fun b=>c.T i b∨∃κ,κ∈ks∧c.T κ b) else c.T j }:=by
 obtain ⟨hAi,_,hti⟩:=h.tok i t hi
 have hag:=h.agF hg (fun b hb=>(hti b hb).1)
 have lk:∀j,al (((i,.tk u) :: ks.map fun κ=>(κ,In.no))++σ) j=if i=j then some (.tk u) else if j∈ks then some .no else al σ j:=fun j=>by
  rw [List.cons_append,ab]
  split
  ·rfl
  ·rw [eW]
   have:∀(ks:List Nat),al (ks.map fun κ=>(κ,In.no)) j=if j∈ks then some .no else none:=by
    intro ks
    induction ks with
    | nil=>rfl
    | cons k ks ih=>
     rw [List.map_cons,ab,ih]
     by_cases e:k=j
     ·subst e;simp
     ·rw [if_neg e];simp [Ne.symm e]
   rw [this]
   split <;> rfl
 have hle:c.Le { c with T:=fun j=>if j=i then (fun b=>c.T i b∨∃κ,κ∈ks∧c.T κ b) else c.T j }:=⟨fun _ h=>h,fun _ h=>⟨h,rfl⟩⟩
 have hV:∀b,(c.T i b∨∃κ,κ∈ks∧c.T κ b)→¬c.F b∧b<w.heap.size∧(W0.M b∨W0.w.heap.size≤b):=fun b hb=>by
  rcases hb with hb|⟨κ,hκ,hb⟩
  ·exact hti b hb
  ·obtain ⟨_,t',ht'⟩:=hks κ hκ
   exact (h.tok κ t' ht').2.2 b hb
 refine ⟨h.ext' hg (fun b hb=>(hti b hb).2.2),h.old,fun b hb=>Nat.lt_of_lt_of_le (h.lt b hb) hg.size,h.size,h.defers,fun j hj=>?_,fun j x hj=>?_,fun j k x y hj hk hne b=>?_,fun t' s ht'=>?_⟩
 ·rw [lk]
  split
  ·simp
  ·split
   ·simp
   ·exact h.all j hj
 ·rw [lk] at hj
  dsimp only
  split at hj
  ·rename_i e
   subst e
   cases hj
   rw [if_pos rfl]
   exact ⟨hAi,Tk.keep hle (Nat.le_refl _) (fun _ _ _=>rfl) (fun _ _ _=>rfl) u _ (hu hag),fun b hb=>⟨(hV b hb).1,Nat.lt_of_lt_of_le (hV b hb).2.1 hg.size,(hV b hb).2.2⟩⟩
  ·rename_i hne
   split at hj
   ·cases hj
   ·obtain ⟨k1,k2,k3⟩:=h.tok j x hj
    rw [if_neg (Ne.symm hne)]
    exact ⟨k1,Tk.keep hle hg.size hag (fun b hb hl=>hg.block b hl (fun hs=>h.off i j t x hi hj hne b hs hb)) x _ k2,fun b hb=>⟨(k3 b hb).1,Nat.lt_of_lt_of_le (k3 b hb).2.1 hg.size,(k3 b hb).2.2⟩⟩
 ·rw [lk] at hj hk
  have key:∀k y,i≠k→k ∉ ks→al σ k=some (.tk y)→∀b,(c.T i b∨∃κ,κ∈ks∧c.T κ b)→¬c.T k b:=fun k y hik hkk hk b hb=>by
   rcases hb with hb|⟨κ,hκ,hb⟩
   ·exact h.off i k t y hi hk hik b hb
   ·obtain ⟨_,t',ht'⟩:=hks κ hκ
    exact h.off κ k t' y ht' hk (fun e=>hkk (e ▸ hκ)) b hb
  dsimp only
  by_cases e1:i=j
  ·subst e1
   rw [if_neg hne] at hk
   split at hk
   ·cases hk
   ·rename_i hkk
    rw [if_pos rfl,if_neg (Ne.symm hne)]
    exact key k y hne hkk hk b
  ·rw [if_neg e1] at hj
   split at hj
   ·cases hj
   ·rename_i hjk
    rw [if_neg (Ne.symm e1)]
    by_cases e2:i=k
    ·subst e2
     rw [if_pos rfl]
     exact fun h1 h2=>key j x e1 hjk hj b h2 h1
    ·rw [if_neg e2] at hk
     split at hk
     ·cases hk
     ·rw [if_neg (Ne.symm e2)]
      exact h.off j k x y hj hk hne b
 ·rw [lk] at ht'
  split at ht'
  ·cases ht'
  ·split at ht'
   ·cases ht'
   ·obtain ⟨x,h1,h2⟩:=h.tmp t' s ht'
    exact ⟨x,h1,Sy.keep hle hag s x h2⟩
mutual
theorem Ct {w:World} {S T:BS}:∀(d:D) (cs:List Value),xH d=true→(match d with | .any=>False|_=>True)→Fp d=true→Rp w S d cs→Ow w d T cs
 | .i _,cs,_,_,_,r=>r
 | .s _,cs,_,_,_,r=>r
 | .b _,cs,_,_,_,r=>r
 | .n _,cs,_,_,_,r=>r
 | .t ds,cs,h,_,h2,r=>wu ds cs h h2 r
 | .any,cs,_,h,_,_=>h.elim
 | .c _,cs,_,_,h2,_=>by cases h2
 | .l _ _,_,h,_,_,_=>by cases h
 | .p _,_,h,_,_,_=>by cases h
 | .f _ _,_,h,_,_,_=>by cases h
theorem wu {w:World} {S T:BS}:∀(ds:List D) (cs:List Value),GE ds=true→BO ds=true→RpL w S ds cs→OwL w ds T cs
 | [],cs,_,_,r=>r
 | d :: ds,cs,h,h2,⟨c,e,h3,h4,h5⟩=>by
  have h':(xH d && GE ds)=true:=h
  have h2':(Fp d && BO ds)=true:=h2
  rw [Bool.and_eq_true] at h' h2'
  exact ⟨fun _=>False,T,c,e,fun _ h=>h.elim,fun _ h=>h,fun _ h=>h.elim,h3,Ct d c h'.1 (by cases d <;> first|trivial|exact absurd h2'.1 (by decide)) h2'.1 h4,wu ds e h'.2 h2'.2 h5⟩
end
theorem Bz {w:World} {c:Cx} {z e:Nat} {ds:List D} {v:Value} {S:BS} (hn:∀d∈ds,xH d=true∧Fp d=true) (h:(Tk.row z e ds).ok c w v S):Ow w (.l z ds) S [v]:=by
 obtain ⟨a,k,h1,h2,h3,h4,h5⟩:=cK h
 refine ⟨a,k,h1,h2,h3,h4,?_⟩
 rcases h with ⟨hd,_⟩|⟨cells,own,hS,hel⟩
 ·exact .inl hd
 by_cases hd:ds = []
 ·exact .inl hd
 rcases own.2 with ⟨hv,hn0⟩|⟨g,cap,cur,hv,_,hg,q5,q6,q7,q8⟩
 ·exact .inl (List.eq_nil_of_length_eq_zero hn0)
 rw [hv] at h1
 have h1':=Value.slice.inj (List.cons.inj h1).1
 have hgo:v.ownBlock=some g:=by rw [hv];rfl
 obtain ⟨l1,l2⟩:=xU own hgo
 refine .inr ⟨g,0,fun _=>False,h1'.1.symm,hS g hgo,l1,fun q=>l2 q,fun _ h=>h.elim,?_⟩
 have:∀(es:List D) (o:Nat),(∀d∈es,xH d=true∧Fp d=true)→(∀j (hj:j<es.length),∃cs,cs.length=z∧Rp w c.F es[j] cs∧bA w g (o+j * z) cs)→OwR w es (fun _=>False) z g o:=by
  intro es
  induction es with
  | nil=>intro o _ _;trivial
  | cons d es ih=>
   intro o hn hel
   obtain ⟨cs,p1,p2,p3⟩:=hel 0 (by simp)
   rw [Nat.zero_mul,Nat.add_zero] at p3
   refine ⟨fun _=>False,fun _=>False,fun _ h=>h,fun _ h=>h,fun _ h=>h.elim,⟨cs,p1,Ct d cs (hn d (by simp)).1 (by have:=(hn d (by simp)).2;cases d <;> first|trivial|exact absurd this (by decide)) (hn d (by simp)).2 p2,p3⟩,ih (o+z) (fun d hd=>hn d (by simp [hd])) (fun j hj=>?_)⟩
   obtain ⟨cs,r1,r2,r3⟩:=hel (j+1) (by simpa using hj)
   refine ⟨cs,r1,by simpa using r2,?_⟩
   rw [show o+z+j * z=o+(j+1) * z by rw [Nat.succ_mul];omega]
   exact r3
 refine this ds 0 hn (fun j hj=>?_)
 obtain ⟨cs,p1,p2,p3⟩:=hel j hj
 refine ⟨cs,p1,p2,fun t u ht=>?_⟩
 have h9:=p3 t u ht
 rw [hv] at own
 rw [Nat.zero_add,World.ownsRow.cellAt own (j * z+t)]
 ·exact h9
 ·rcases Nat.lt_or_ge (j * z+t) cells.length with h|h
  ·rw [← own.1];exact h
  ·rw [List.getElem?_eq_none h] at h9;cases h9
section
variable {P:Program} {ops:Array Oper} {W0:cz} {N:Nat} {Fin:Us→Env→Prop} {os:List Oper} {us:Us} {pk fk:List Nat} {σ:Env} {g:Option (Nat × Bool)} {gk:List Nat} {d ty ty' f:Nat} {pos:String} {after:Array Edge} {at':Array TypeId} {x y:Operand} {i z n q e:Nat} {xs ds:List D}
theorem nH {C:Code} {Q:Exit→Act→World→Prop} (i:Nat) (hn:∀d∈ds,xH d=true∧Fp d=true) (h:ar P W0 N C ((i,.tk (.own (.l z ds) none none)) :: σ) Q) (hi:al σ i=some (.tk (.row z e ds)):=by rfl):ar P W0 N C σ Q:=by
 intro a w ⟨c,hc⟩
 obtain ⟨hA,hT,hlt⟩:=hc.tok i _ hi
 exact h a w ⟨c,hc.upd2 hi Chg.rfl' (fun _=>⟨Bz hn hT,fun p hp=>(by cases hp),fun p hp=>(by cases hp)⟩)⟩
theorem Chg.set {S:BS} {w:World} {b o:Nat} {us':List Value} (hb:S b):Chg S w (w.setCells b o us'):=Chg.grown (by rw [me];exact qg us' w b o) (fun g hg=>by cases hg;exact hb)
theorem GF {w:World} {S V:BS} {v:Value} {r:D} {us':List Value} (hO:Ow w (.l z xs) S [v]) (hn:n<xs.length) (hr:Ow w r V us') (hl:us'.length=z) (h1:us'.all (·.oneCell')=true) (hV:∀c,V c→¬S c∧c<w.heap.size):∃(b o k:Nat),v=.slice (some ⟨b,o,none⟩) xs.length k∧S b∧(∀{P:Program} {ty:Nat},sizeOf? P ty=some z→(Instr.storeAt ty (.pointer (some ⟨b,o+n * z,none⟩)) (.agg us'.toArray)).run P w=.ok () (w.setCells b (o+n * z) us'))∧Ow (w.setCells b (o+n * z) us') (.l z (xs.set n r)) (fun c=>S c∨V c) [v]:=by
 obtain ⟨a,k,e1,e2,e3,e4,e5⟩:=hO
 rcases e5 with e5|⟨b,o,U,rfl,f2,f3,f4,f5,f6⟩
 ·rw [e5] at hn;exact absurd hn (Nat.not_lt_zero _)
 have hch:Chg S w (w.setCells b (o+n * z) us'):=Chg.set f2
 have hch1:Chg (fun c=>c=b) w (w.setCells b (o+n * z) us'):=Chg.set rfl
 obtain ⟨Tn,cs,k1,k2,k3,k4,_⟩:=EE xs n U z b o f6 hn
 have hin:∀j,j<us'.length→(w.cell? ⟨b,o+n * z+j,none⟩).isSome=true:=fun j hj=>by
  rw [k4 j _ (List.getElem?_eq_getElem (by omega))];rfl
 refine ⟨b,o,k,(List.cons.inj e1).1,f2,fun {P} {ty} hz=>?_,some ⟨b,o,none⟩,k,by rw [List.length_set];exact e1,by rw [List.length_set];exact e2,e3,e4,.inr ⟨b,o,fun c=>U c∨V c,rfl,.inl f2,Nat.lt_of_lt_of_le f3 hch.size,fun q=>by rw [World.frozen?_setCells];exact f4 q,fun c hc=>?_,?_⟩⟩
 ·have:=run_storeAt_mid (P:=P) w b (o+n * z) ty us'.toArray (fun j hj=>⟨hin j (by simpa using hj),f4 _⟩) (by simpa [hl] using cY hz) (all_oneCell_toArray (by simpa using h1))
  simpa using this
 ·rcases hc with hc|hc
  ·exact ⟨.inl (f5 c hc).1,(f5 c hc).2⟩
  ·exact ⟨.inr hc,fun e=>(hV c hc).1 (e ▸ f2)⟩
 ·refine JD hch.size xs n U z b o r us' f6 hn (fun c hc hcl=>hch1.block c hcl (f5 c hc).2) (fun j hj=>World.cell?_setCells_out b us' (o+n * z) w ⟨b,j,none⟩ (fun _ _=>by rw [hl];exact hj)) (Ow.keep hch.size r V V us' (fun _ h=>h) (fun c hc hcl=>hch1.block c hcl (fun e=>(hV c hc).1 (e ▸ f2))) hr) hl (fun j u hj=>?_) (fun c hc hu=>(hV c hc).1 (f5 c hu).1)
  obtain ⟨hj1,hj2⟩:=List.getElem?_eq_some_iff.1 hj
  rw [World.cell?_setCells_in b us' (o+n * z) w hin j hj1,hj2]
theorem rN {es:List D} (h:Der P ops W0 N Fin os (us++[((gk++(i :: (kx x++kx y)))++pk,([i])++fk)]) [] [] ((i,.tk (.own (.l z (xs.set n (.t es))) none none)) :: σ)) (hx:ev σ x=some (.eo i q):=by rfl) (hi:al σ i=some (.tk (.own (.l z xs) none none)):=by rfl) (hq:q=n * z:=by rfl) (hy:ev σ y=some (.d (.t es)):=by rfl) (hp:(GE es && BO es)=true:=by rfl) (hz:sizeOf? P ty'=some z:=by rfl) (hl:szs es=z:=by rfl) (hg:gst ops σ g=some (true,gk):=by rfl) (hn:n<xs.length:=by first|assumption|(rw [List.length_set];assumption)):Der P ops W0 N Fin (⟨none,.store ty' x y,ty,pos,after,g⟩ :: os) us pk fk σ:=
 lq (i :: (kx x++kx y)) [(i,.tk (.own (.l z (xs.set n (.t es))) none none))] (fun σ' c a w hk hc=>by
  subst hq
  have hi':=(hk i (by simp)).trans hi
  obtain ⟨hA,⟨hO,_,_⟩,hlt⟩:=hc.tok i _ hi'
  obtain ⟨_,b',o',m',k',e1,e2⟩:=ap hc (ah hx (fun κ hκ=>hk κ (by simp [hκ])))
  obtain ⟨us',e3,e4⟩:=ap hc (ah hy (fun κ hκ=>hk κ (by simp [hκ])))
  rw [Bool.and_eq_true] at hp
  have hr:Ow w (.t es) (fun _=>False) us':=wu es us' hp.1 hp.2 e4
  obtain ⟨b,o,k,f1,f2,f3,f4⟩:=GF hO hn hr ((RpL.len _ _ e4).trans hl) (List.all_eq_true.2 (fun u hu=>RpL.one _ _ e4 u hu)) (fun c h=>h.elim)
  rw [f1] at e1
  have e6:=Option.some.inj (Value.slice.inj e1).1
  have e7:b=b':=by injection e6
  have e8:o=o':=by injection e6
  subst e7;subst e8
  have hrun:(execOp a.eval ⟨none,.store ty' x y,ty,pos,after,g⟩).run P w=.ok .skip (w.setCells b (o+n * z) us'):=tR (X:=Instr.storeAt ty' (a.eval x) (a.eval y)) (by rw [e2,e3];exact f3 hz)
  unfold Oper.wp
  rw [hrun]
  refine ⟨rfl,c,hc.upd2 hi' (Chg.set f2) (fun hag=>⟨f4.mono (fun c h=>h.elim id False.elim),fun p hp=>(by cases hp),fun p hp=>(by cases hp)⟩)⟩) h hg
theorem xc {ss:List Sy} {es:List D} (r:D) (h:Der P ops W0 N Fin os (us++[((gk++(i :: (cP ss++(kx x++kx y))))++pk,(((i,In.tk (.own (.l z (xs.set n r)) none none)) :: (cP ss).map fun κ=>(κ,In.no)).map Prod.fst)++fk)]) [] [] (((i,.tk (.own (.l z (xs.set n r)) none none)) :: (cP ss).map fun κ=>(κ,.no))++σ)) (hx:ev σ x=some (.eo i q):=by rfl) (hi:al σ i=some (.tk (.own (.l z xs) none none)):=by rfl) (hq:q=n * z:=by rfl) (hy:ev σ y=some (.ag ss):=by rfl) (ho:jq σ ss=some es:=by rfl) (hr:Gf r=es:=by rfl) (hd:zV ss=true:=by rfl) (hni:((cP ss).all fun κ=>!(Nat.beq κ i))=true:=by rfl) (h1:ss.all (pu σ)=true:=by rfl) (hz:sizeOf? P ty'=some z:=by rfl) (hl:ss.length=z:=by rfl) (hg:gst ops σ g=some (true,gk):=by rfl) (hn:n<xs.length:=by first|assumption|(rw [List.length_set];assumption)):Der P ops W0 N Fin (⟨none,.store ty' x y,ty,pos,after,g⟩ :: os) us pk fk σ:=
 lq (i :: (cP ss++(kx x++kx y))) ((i,.tk (.own (.l z (xs.set n r)) none none)) :: (cP ss).map fun κ=>(κ,.no)) (fun σ' c a w hk hc=>by
  subst hq
  have hks:∀κ∈cP ss,al σ' κ=al σ κ:=fun κ hκ=>hk κ (by simp [hκ])
  have ho':=(kq ss hks).trans ho
  have hi':=(hk i (by simp)).trans hi
  obtain ⟨hA,⟨hO,_,_⟩,hlt⟩:=hc.tok i _ hi'
  obtain ⟨_,b',o',m',k',e1,e2⟩:=ap hc (ah hx (fun κ hκ=>hk κ (by simp [hκ])))
  obtain ⟨us',e3,e4⟩:=ap hc (ah hy (fun κ hκ=>hk κ (by simp [hκ])))
  obtain ⟨p1,p2,p3⟩:=rk hc ss es us' ho' e4
  have hkey:∀(m κ:Nat),ss[m]? = some (.k κ)→κ∈cP ss∧∃t,al σ' κ=some (.tk t):=fun m κ hm=>by
   have:∀(ss:List Sy) (es:List D) (m:Nat),jq σ' ss=some es→ss[m]? = some (.k κ)→κ∈cP ss∧∃t,al σ' κ=some (.tk t):=by
    intro ss
    induction ss with
    | nil=>intro es m _ hm;simp at hm
    | cons s ss ih=>
     intro es m ho hm
     have tl:∃es',jq σ' ss=some es':=by
      cases s with
      | k j=>unfold jq at ho;split at ho;exact ⟨_,by assumption⟩;cases ho
      | d r=>unfold jq at ho;split at ho;exact ⟨_,by assumption⟩;cases ho
      | _=>cases ho
     obtain ⟨es',hes'⟩:=tl
     cases m with
     | zero=>
      simp at hm
      subst hm
      refine ⟨by simp [cP,kSy],?_⟩
      unfold jq at ho
      split at ho
      ·exact ⟨_,by assumption⟩
      ·cases ho
     | succ m=>
      obtain ⟨q1,q2⟩:=ih es' m hes' (by simpa using hm)
      exact ⟨by simp [cP,q1],q2⟩
   exact this ss es m ho' hm
  have htk:∀(m b:Nat),tkT c ss[m]? b→∃κ,ss[m]? = some (.k κ)∧c.T κ b:=fun m b hb=>by
   cases hm:ss[m]? with
   | none=>rw [hm] at hb;exact hb.elim
   | some s=>
    rw [hm] at hb
    cases s with
    | k κ=>exact ⟨κ,rfl,hb⟩
    | _=>exact hb.elim
  have hcells:=pj es us' (fun m=>tkT c ss[m]?) p1 p3 (fun m m' hmm b hb hb'=>by
   obtain ⟨κ,q1,q2⟩:=htk m b hb
   obtain ⟨κ',q3,q4⟩:=htk m' b hb'
   have hne:κ≠κ':=by
    rcases Nat.lt_or_ge m m' with hlt|hge
    ·exact iL ss m m' κ κ' hd hlt q1 q3
    ·exact fun e=>iL ss m' m κ' κ hd (by omega) q3 q1 e.symm
   obtain ⟨t,ht⟩:=(hkey m κ q1).2
   obtain ⟨t',ht'⟩:=(hkey m' κ' q3).2
   exact hc.off κ κ' t t' ht ht' hne b q2 q4)
  have hV:∀b,(∃m:Nat,tkT c ss[m]? b)→∃κ,κ∈cP ss∧c.T κ b:=fun b ⟨m,hb⟩=>by
   obtain ⟨κ,q1,q2⟩:=htk m b hb
   exact ⟨κ,(hkey m κ q1).1,q2⟩
  have hkt:∀κ∈cP ss,κ≠i∧∃t,al σ' κ=some (.tk t):=fun κ hκ=>by
   refine ⟨fun e=>?_,?_⟩
   ·have:=List.all_eq_true.1 hni κ hκ
    rw [e] at this;simp at this
   ·have:∀(ss:List Sy),κ∈cP ss→∃m:Nat,ss[m]? = some (Sy.k κ):=by
     intro ss
     induction ss with
     | nil=>intro h;simp [cP] at h
     | cons s ss ih=>
      intro h
      rw [cP,List.mem_append] at h
      rcases h with h|h
      ·cases s with
       | k j=>simp [kSy] at h;subst h;exact ⟨0,rfl⟩
       | _=>simp [kSy] at h
      ·obtain ⟨m,hm⟩:=ih h;exact ⟨m+1,by simpa using hm⟩
    obtain ⟨m,hm⟩:=this ss hκ
    exact (hkey m κ hm).2
  have hr':Ow w r (fun b=>∃m:Nat,tkT c ss[m]? b) us':=xu r _ us' (by rw [hr];exact hcells)
  obtain ⟨b,o,k,f1,f2,f3,f4⟩:=GF hO hn hr' ((cM _ _ e4).trans hl) (List.all_eq_true.2 (mD hc ss us' e4 ((fo hks).trans h1))) (fun b hb=>by
   obtain ⟨κ,q1,q2⟩:=hV b hb
   obtain ⟨q3,t,q4⟩:=hkt κ q1
   exact ⟨hc.off κ i t _ q4 hi' q3 b q2,((hc.tok κ t q4).2.2 b q2).2.1⟩)
  rw [f1] at e1
  have e6:=Option.some.inj (Value.slice.inj e1).1
  have e7:b=b':=by injection e6
  have e8:o=o':=by injection e6
  subst e7;subst e8
  have hrun:(execOp a.eval ⟨none,.store ty' x y,ty,pos,after,g⟩).run P w=.ok .skip (w.setCells b (o+n * z) us'):=tR (X:=Instr.storeAt ty' (a.eval x) (a.eval y)) (by rw [e2,e3];exact f3 hz)
  unfold Oper.wp
  rw [hrun]
  refine ⟨rfl,_,hc.eatM (cP ss) hi' hkt (Chg.set f2) (fun hag=>⟨f4.mono (fun c h=>h.imp id (hV c)),fun p hp=>(by cases hp),fun p hp=>(by cases hp)⟩)⟩) h hg
theorem uA {j o:Nat} {cs:List Sy} (h:Der P ops W0 N Fin os (us++[((gk++(i :: ([j]++(kx x++kx y))))++pk,([i])++fk)]) [] [] ((i,.tk (.bx (cs.set o (.k j)))) :: σ)) (hx:ev σ x=some (.bx i o):=by rfl) (hi:al σ i=some (.tk (.bx cs)):=by rfl) (hy:ev σ y=some (.k j):=by rfl) (h1:pu σ (.k j)=true:=by rfl) (ho:Nat.blt o cs.length=true:=by rfl) (hz:sizeOf? P ty'=some 1:=by rfl) (hg:gst ops σ g=some (true,gk):=by rfl):Der P ops W0 N Fin (⟨none,.store ty' x y,ty,pos,after,g⟩ :: os) us pk fk σ:=
 lq (i :: ([j]++(kx x++kx y))) [(i,.tk (.bx (cs.set o (.k j))))] (fun σ' c a w hk hc=>by
  obtain ⟨hAi,b,e1,e2⟩:=ap hc (ah hx (fun κ hκ=>hk κ (by simp [hκ])))
  have hi':=(hk i (by simp)).trans hi
  obtain ⟨_,⟨b',vs,e3,e4,e5,e6⟩,hlt⟩:=hc.tok i _ hi'
  rw [e1] at e3;cases e3
  have hv:=ap hc (ah hy (fun κ hκ=>hk κ (by simp [hκ])))
  have hone:(a.eval y).oneCell'=true:=my hc hv ((kG (fun κ hκ=>hk κ (by simp [kSy] at hκ;simp [hκ]))).trans h1)
  have hol:o<vs.length:=by rw [cM _ _ e5];exact Nat.blt_eq.mp ho
  obtain ⟨q4,q5⟩:=e6 o _ (List.getElem?_eq_getElem hol)
  unfold Oper.wp
  rw [fu hz hone q4 q5 e2 rfl]
  have hch:Chg (c.T i) w (w.setCell ⟨b,o,none⟩ (a.eval y)):=Chg.grown (co b o _) (fun g hg=>by cases hg;exact e4)
  refine ⟨rfl,c,hc.upd hi' hch (by simp) (fun hag=>⟨b,vs.set o (a.eval y),e1,e4,?_,e6.set o _⟩)⟩
  exact jY _ _ _ _ _ (Sy.keeps (Cx.Le.refl c) hag _ _ e5) (Sy.keep (Cx.Le.refl c) hag _ _ hv)) h hg
theorem Ex (us' vs:List Value) (o:Nat) (h:o+us'.length≤vs.length):ly vs o us'=vs.take o++(us'++vs.drop (o+us'.length)):=by
 apply List.ext_getElem?
 intro j
 by_cases h1:j<o
 ·rw [jF us' vs o j (.inl h1),List.getElem?_append_left (by rw [List.length_take];omega),List.getElem?_take,if_pos h1]
 rw [List.getElem?_append_right (by rw [List.length_take];omega),List.length_take,Nat.min_eq_left (by omega)]
 by_cases h2:j - o<us'.length
 ·rw [List.getElem?_append_left h2]
  have:=lS us' vs o (j - o) _ (by omega) (List.getElem?_eq_getElem h2)
  rw [show o+(j - o)=j by omega] at this
  rw [this,List.getElem?_eq_getElem h2]
 ·rw [jF us' vs o j (.inr (by omega)),List.getElem?_append_right (by omega),List.getElem?_drop]
  congr 1;omega
theorem rK {o:Nat} {cs ss:List Sy} (h:Der P ops W0 N Fin os (us++[((gk++(i :: (cP ss++(kx x++kx y))))++pk,([i])++fk)]) [] [] ((i,.tk (.bx (cs.take o++(ss++cs.drop (o+ss.length))))) :: σ)) (hx:ev σ x=some (.bx i o):=by rfl) (hi:al σ i=some (.tk (.bx cs)):=by rfl) (hy:ev σ y=some (.ag ss):=by rfl) (hz:sizeOf? P ty'=some ss.length:=by rfl) (hl:Nat.ble (o+ss.length) cs.length=true:=by rfl) (h1:ss.all (pu σ)=true:=by rfl) (hg:gst ops σ g=some (true,gk):=by rfl):Der P ops W0 N Fin (⟨none,.store ty' x y,ty,pos,after,g⟩ :: os) us pk fk σ:=
 lq (i :: (cP ss++(kx x++kx y))) [(i,.tk (.bx (cs.take o++(ss++cs.drop (o+ss.length)))))] (fun σ' c a w hk hc=>by
  obtain ⟨hAi,b,e1,e2⟩:=ap hc (ah hx (fun κ hκ=>hk κ (by simp [hκ])))
  have hi':=(hk i (by simp)).trans hi
  obtain ⟨_,⟨b',vs,e3,e4,e5,e6⟩,hlt⟩:=hc.tok i _ hi'
  rw [e1] at e3;cases e3
  obtain ⟨us',e7,e8⟩:=ap hc (ah hy (fun κ hκ=>hk κ (by simp [hκ])))
  have hone:=fo (σ:=σ) (σ':=σ') (ss:=ss) (fun κ hκ=>hk κ (by simp [hκ]))
  rw [h1] at hone
  have hlu:=cM _ _ e8
  have hlen:o+us'.length≤vs.length:=by rw [hlu,cM _ _ e5];exact Nat.le_of_ble_eq_true hl
  obtain ⟨w',r1,r2,r3,r4⟩:=mV (P:=P) e6 o us' hlen ty' (by rw [hlu];exact cY hz) (List.all_eq_true.2 (fun u hu=>mD hc _ _ e8 hone u hu))
  have hrun:(execOp a.eval ⟨none,.store ty' x y,ty,pos,after,g⟩).run P w=.ok .skip w':=tR (X:=Instr.storeAt ty' (a.eval x) (a.eval y)) (by rw [e2,e7];exact r1)
  unfold Oper.wp
  rw [hrun]
  rw [Ex us' vs o hlen,hlu] at r2
  exact ⟨rfl,c,hc.upd hi' (Chg.grown r3 (fun g hg=>by cases hg;exact e4)) r4 (fun hag=>⟨b,_,e1,e4,ln _ _ _ _ (kw o _ _ (Sy.keeps (Cx.Le.refl c) hag _ _ e5)) (ln _ _ _ _ (Sy.keeps (Cx.Le.refl c) hag _ _ e8) (kC _ _ _ (Sy.keeps (Cx.Le.refl c) hag _ _ e5))),r2⟩)⟩) h hg
end
def qS {α:Type} (f:α→D) (r:D) (i:Nat) (xs:List α):List D:=(xs.take i).map f++List.replicate (xs.length - i) r
theorem gd {α:Type} (f:α→D) (r:D) (xs:List α):List.replicate xs.length r=qS f r 0 xs:=by simp [qS]
theorem iA {α:Type} {f:α→D} {r:D} {xs:List α} {ds:List D} {i:Nat} (h:i=xs.length) (hd:ds=qS f r i xs):ds=xs.map f:=by subst h;rw [hd];simp [qS]
theorem iB {α:Type} {f:α→D} {r:D} {xs:List α} {ds:List D} {i:Nat} (h:i≤xs.length) (hd:ds=qS f r i xs):ds.length=xs.length:=by subst hd;simp [qS];omega
theorem kb {α:Type} {f:α→D} {r:D} {xs:List α} {ds:List D} {i:Nat} (h:i<xs.length) (hd:ds=qS f r i xs):ds[i]? = some r:=by
 subst hd
 unfold qS
 rw [List.getElem?_append_right (by simp;omega),List.getElem?_replicate,if_pos (by rw [List.length_map,List.length_take];omega)]
theorem gi {α:Type} {f:α→D} {r:D} {xs:List α} {ds:List D} {i:Nat} (h:i<xs.length) (hd:ds=qS f r i xs):ds.set i (f xs[i])=qS f r (i+1) xs:=by
 subst hd
 unfold qS
 have hl:((xs.take i).map f).length=i:=by simp;omega
 rw [List.set_append_right _ _ (by omega),hl,Nat.sub_self,show xs.length - i=(xs.length - (i+1))+1 by omega,List.replicate_succ,List.set_cons_zero,List.take_succ_eq_append_getElem h,List.map_append,List.append_assoc]
 rfl
theorem kgt {p q:Prop} (hq:q) (h:Beh q→p:=by intro h0;(repeat (first|(refine ca ?_;first|refine aM ?_|refine b6 ?_|refine aR ?_|refine bh ?_|refine aL ?_|refine bg ?_|refine aX ?_|refine az ?_|refine aV ?_)|(refine eG ?_;first|refine yH ?_|refine bH ?_|refine eC ?_|refine bP ?_|refine cb ?_)|(refine eT ?_;first|refine ya ?_|refine vy (h:=?_)|refine cd ?_|refine bR ?_|refine b9 ?_|refine bu ?_|refine bJ ?_|refine b8 ?_)|(refine eR ?_;first|refine yJ ?_|refine ch ?_|refine d7 ?_|refine b7 ?_|refine bD ?_|refine bN ?_|refine bX ?_|refine bS ?_)|(refine eK ?_;first|refine eF ?_|refine eA ?_|refine bU ?_|refine bG ?_|refine eH ?_|refine bd ?_|refine bc ?_)|(refine bV ?_;first|refine ba ?_|refine bT ?_)|(refine eV ?_;first|refine bI ?_|refine bQ ?_|refine eJ ?_)|(refine bL ?_;first|refine lx ?_|refine mS ?_|refine bO ?_|refine aS ?_|refine aN ?_|refine aW ?_|refine aQ ?_|refine aY ?_|refine lF ?_)|(refine eE ?_;first|refine bZ ?_|refine eB ?_|refine be ?_|refine aP ?_|refine aU ?_)|(refine aK ?_;first|refine aq _ ?_|refine bf ?_|refine aw ?_|refine au ?_|refine ax ?_|refine uA ?_|refine rN ?_|refine rK ?_)|(refine eP ?_;first|refine bW ?_|refine bE ?_|refine bM ?_)|(refine gOp ?_;first|refine eD ?_|refine eM ?_|refine aZ ?_|refine eU ?_|refine eN ?_|refine bK ?_|refine aO ?_|refine cf ?_|refine eO ?_|refine bC ?_|refine bY ?_|refine aT ?_|refine ay ?_|refine cg ?_|refine sNo ?_|refine dU ?_|refine av ?_)|refine dY ?_|refine dq ?_|refine fj ?_|refine bj ?_|refine ci ?_|refine br ?_|refine fm ?_|refine fl ?_|refine eX ?_|refine dB ?_|refine ck ?_|refine bo ?_|refine aA ?_|refine bk ?_|refine ct ?_|refine bt ?_|refine aBlkX ?_|refine cm ?_));exact h0.out):p:=h ⟨hq⟩
end Go.Proofs.YtnobdioccfeokaaGreatDoor
namespace Go.Proofs.YtnobdioccfeokaaGreatDoor
open Go.RowKit
set_option linter.unusedVariables false
set_option linter.unusedSimpArgs false
theorem BM {w:World} {S:BS} {z b:Nat}:∀(es:List D) (o:Nat),(∀d∈es,xH d=true∧Fp d=true)→RpR w S z b o es→OwR w es (fun _=>False) z b o
 | [],o,_,_=>trivial
 | d :: es,o,hn,⟨⟨cs,h1,h2,h3⟩,h4⟩=>⟨fun _=>False,fun _=>False,fun _ h=>h,fun _ h=>h,fun _ h=>h.elim,⟨cs,h1,Ct d cs (hn d (by simp)).1 (by have:=(hn d (by simp)).2;cases d <;> first|trivial|exact absurd this (by decide)) (hn d (by simp)).2 h2,h3⟩,BM es (o+z) (fun d hd=>hn d (by simp [hd])) h4⟩
theorem IB {w:World} {T:BS} {x:Nd} {cs:List Value} (hT:∀b,T b→b<w.heap.size∧∀o,w.frozen? ⟨b,o,none⟩=false) (h:Rp w T x.D cs):Ow w x.D T cs:=by
 obtain ⟨c1,e1,rfl,h1,c2,e2,rfl,h2,c3,e3,rfl,h3,h4⟩:=h
 refine ⟨fun _=>False,T,c1,_,fun _ h=>h.elim,fun _ h=>h,fun _ h=>h.elim,rfl,h1,fun _=>False,T,c2,_,fun _ h=>h.elim,fun _ h=>h,fun _ h=>h.elim,rfl,h2,T,fun _=>False,c3,e3,fun _ h=>h,fun _ h=>h.elim,fun _ _ h=>h,rfl,?_,h4⟩
 obtain ⟨a,k,q1,q2,q3,q4,q5⟩:=h3
 refine ⟨a,k,q1,q2,q3,q4,q5.imp id ?_⟩
 rintro ⟨b,o,r1,r2,r3⟩
 exact ⟨b,o,fun _=>False,r1,r2,(hT b r2).1,(hT b r2).2,fun _ h=>h.elim,BM _ o (fun d hd=>by obtain ⟨n,_,rfl⟩:=List.mem_map.1 hd;exact ⟨rfl,rfl⟩) r3⟩
theorem Eo {w:World} {c:Cx} {z e:Nat} {ns:List Nd} {v:Value} {S:BS} (h:(Tk.deep z e (ns.map Nd.D) []).ok c w v S):Ow w (.l z (ns.map Nd.D)) S [v]:=by
 rcases h with ⟨hd,_,a0,hv⟩|⟨cells,T,own,h3,h4,h5,h6,_⟩
 ·rw [hd]
  exact ⟨a0,0,by rw [hv];rfl,Nat.le_refl _,by decide,fun _=>rfl,.inl rfl⟩
 rcases own.2 with ⟨hv,hn0⟩|⟨g,cap,cur,hv,_,hg,q5,q6,q7,q8⟩
 ·rw [List.eq_nil_of_length_eq_zero hn0]
  exact ⟨none,0,by rw [hv];rfl,Nat.le_refl _,by decide,fun _=>rfl,.inl rfl⟩
 have hgo:v.ownBlock=some g:=by rw [hv];rfl
 obtain ⟨l1,l2⟩:=xU own hgo
 obtain ⟨s1,s2⟩:=h3 g hgo
 refine ⟨some ⟨g,0,none⟩,cap,by rw [hv],q5,q6,fun h=>(by cases h),.inr ⟨g,0,fun b=>∃j,T j b,rfl,s1,l1,fun q=>l2 q,fun b ⟨j,hb⟩=>⟨(h4 j b hb).1,fun e=>s2 j (e ▸ hb)⟩,?_⟩⟩
 have:∀(es:List Nd) (o:Nat) (T:Nat→BS),(∀j b,T j b→b<w.heap.size∧∀o,w.frozen? ⟨b,o,none⟩=false)→(∀i j,i≠j→∀b,T i b→¬T j b)→(∀j (hj:j<es.length),∃cs,cs.length=z∧Rp w (T j) (es[j]).D cs∧bA w g (o+j * z) cs)→OwR w (es.map Nd.D) (fun b=>∃j,T j b) z g o:=by
  intro es
  induction es with
  | nil=>intro o T _ _ _;trivial
  | cons d es ih=>
   intro o T hT hoff hel
   obtain ⟨cs,p1,p2,p3⟩:=hel 0 (by simp)
   rw [Nat.zero_mul,Nat.add_zero] at p3
   refine ⟨T 0,fun b=>∃j,T (j+1) b,fun b h=>⟨0,h⟩,fun b ⟨j,h⟩=>⟨j+1,h⟩,fun b h ⟨j,h'⟩=>hoff 0 (j+1) (by omega) b h h',⟨cs,p1,IB (hT 0) p2,p3⟩,ih (o+z) (fun j=>T (j+1)) (fun j=>hT (j+1)) (fun i j hij=>hoff (i+1) (j+1) (by omega)) (fun j hj=>?_)⟩
   obtain ⟨cs,r1,r2,r3⟩:=hel (j+1) (by simpa using hj)
   refine ⟨cs,r1,by simpa using r2,?_⟩
   rw [show o+z+j * z=o+(j+1) * z by rw [Nat.succ_mul];omega]
   exact r3
 refine this ns 0 T (fun j b hb=>(h4 j b hb).2) h5 (fun j hj=>?_)
 obtain ⟨cs,p1,p2,p3⟩:=h6 j (by rw [List.length_map];exact hj)
 refine ⟨cs,p1,by rw [List.getElem_map] at p2;exact p2,fun t u ht=>?_⟩
 have h9:=p3 t u ht
 rw [hv] at own
 rw [Nat.zero_add,World.ownsRow.cellAt own (j * z+t)]
 ·exact h9
 ·rcases Nat.lt_or_ge (j * z+t) cells.length with h|h
  ·rw [← own.1];exact h
  ·rw [List.getElem?_eq_none h] at h9;cases h9
theorem Js {P:Program} {W0:cz} {N:Nat} {σ:Env} {z e:Nat} {ns:List Nd} {C:Code} {Q:Exit→Act→World→Prop} (i:Nat) (h:ar P W0 N C ((i,.tk (.own (.l z (ns.map Nd.D)) none none)) :: σ) Q) (hi:al σ i=some (.tk (.deep z e (ns.map Nd.D) [])):=by rfl):ar P W0 N C σ Q:=by
 intro a w ⟨c,hc⟩
 obtain ⟨hA,hT,hlt⟩:=hc.tok i _ hi
 exact h a w ⟨c,hc.upd2 hi Chg.rfl' (fun _=>⟨Eo hT,fun p hp=>(by cases hp),fun p hp=>(by cases hp)⟩)⟩
section
variable {P:Program} {ops:Array Oper} {W0:cz} {N:Nat} {Fin:Us→Env→Prop} {os:List Oper} {us:Us} {pk fk:List Nat} {σ:Env} {g:Option (Nat × Bool)} {gk:List Nat} {d ty ty' ty2:Nat} {pos:String} {after:Array Edge} {x y:Operand} {s t:Sy}
theorem Im {m:Int} (h:Der P ops W0 N Fin os (us++[((d :: (gk++(kx x++kx y)))++pk,([d])++fk)]) [] [] ((d,.sy (.d (.b false))) :: σ)) (hx:ev σ x=some s:=by rfl) (hy:ev σ y=some t:=by rfl) (hm:s.int? = some m:=by rfl) (hn:t.int? = some m:=by rfl) (hg:gst ops σ g=some (true,gk):=by rfl) (hN:Nat.blt d N=true:=by rfl) (hs:aF σ d=true:=by rfl):Der P ops W0 N Fin (⟨some d,.binOp .neq ty' x y ty2,ty,pos,after,g⟩ :: os) us pk fk σ:=eA (m:=m) (n:=m) (r:=false) h hx hy hm hn (by simp [IZ]) hg hN hs
theorem HU {m:Bool} (h:Der P ops W0 N Fin os (us++[((d :: (gk++(kx x++kx y)))++pk,([d])++fk)]) [] [] ((d,.sy (.d (.b false))) :: σ)) (hx:ev σ x=some s:=by rfl) (hy:ev σ y=some t:=by rfl) (hm:s.bool? = some m:=by rfl) (hn:t.bool? = some m:=by rfl) (ht:P.underlying ty'=some .bool:=by rfl) (hg:gst ops σ g=some (true,gk):=by rfl) (hN:Nat.blt d N=true:=by rfl) (hs:aF σ d=true:=by rfl):Der P ops W0 N Fin (⟨some d,.binOp .neq ty' x y ty2,ty,pos,after,g⟩ :: os) us pk fk σ:=bG (m:=m) (n:=m) (r:=false) h hx hy hm hn (by simp [IX]) ht hg hN hs
theorem IE {m n:Int} (h:Der P ops W0 N Fin os (us++[((d :: (gk++(kx x++kx y)))++pk,([d])++fk)]) [] [] ((d,.sy (.d (.b false))) :: σ)) (hx:ev σ x=some s:=by rfl) (hy:ev σ y=some t:=by rfl) (hm:s.int? = some m:=by rfl) (hn:t.int? = some n:=by rfl) (hr:¬m<n:=by omega) (hg:gst ops σ g=some (true,gk):=by rfl) (hN:Nat.blt d N=true:=by rfl) (hs:aF σ d=true:=by rfl):Der P ops W0 N Fin (⟨some d,.binOp .lss ty' x y ty2,ty,pos,after,g⟩ :: os) us pk fk σ:=eA (m:=m) (n:=n) (r:=false) h hx hy hm hn (congrArg some (decide_eq_false hr)) hg hN hs
end
theorem Jh {P:Program} {W0:cz} {N:Nat} {σ:Env} {Q:Exit→Act→World→Prop} {x:Code} (τ:Env) (h:ar P W0 N x τ Q) (hs:E2 [] σ τ τ:=by (repeat' (first|exact trivial|refine ⟨⟨?_,rfl⟩,?_⟩)) <;> rfl) (hn:ny ((tks τ).map (rn []))=true:=by rfl):ar P W0 N x σ Q:=fun a w hh=>h a w (hh.sub [] τ hs hn)
theorem CP {p q:Prop} (hq:q) (h:Beh q→p:=by intro h0;(repeat (first|(refine ca ?_;first|refine aM ?_|refine b6 ?_|refine aR ?_|refine bh ?_|refine aL ?_|refine bg ?_|refine aX ?_|refine az ?_|refine aV ?_)|(refine eG ?_;first|refine yH ?_|refine bH ?_|refine eC ?_|refine bP ?_|refine cb ?_)|(refine eT ?_;first|refine ya ?_|refine vy (h:=?_)|refine cd ?_|refine bR ?_|refine b9 ?_|refine bu ?_|refine bJ ?_|refine b8 ?_)|(refine eR ?_;first|refine yJ ?_|refine ch ?_|refine d7 ?_|refine b7 ?_|refine bD ?_|refine bN ?_|refine bX ?_|refine bS ?_)|(refine eK ?_;first|refine Im ?_|refine HU ?_|refine IE ?_|refine eF ?_|refine eA ?_|refine bU ?_|refine bG ?_|refine eH ?_|refine bd ?_|refine bc ?_)|(refine bV ?_;first|refine ba ?_|refine bT ?_)|(refine eV ?_;first|refine bI ?_|refine bQ ?_|refine eJ ?_)|(refine bL ?_;first|refine lx ?_|refine mS ?_|refine bO ?_|refine aS ?_|refine aN ?_|refine aW ?_|refine aQ ?_|refine aY ?_|refine lF ?_)|(refine eE ?_;first|refine bZ ?_|refine eB ?_|refine be ?_|refine aP ?_|refine aU ?_)|(refine aK ?_;first|refine aq _ ?_|refine bf ?_|refine aw ?_|refine au ?_|refine ax ?_|refine uA ?_|refine rN ?_|refine rK ?_)|(refine eP ?_;first|refine bW ?_|refine bE ?_|refine bM ?_)|(refine gOp ?_;first|refine eD ?_|refine eM ?_|refine aZ ?_|refine eU ?_|refine eN ?_|refine bK ?_|refine aO ?_|refine cf ?_|refine eO ?_|refine bC ?_|refine bY ?_|refine aT ?_|refine ay ?_|refine cg ?_|refine sNo ?_|refine dU ?_|refine av ?_)|refine dY ?_|refine dq ?_|refine fj ?_|refine bj ?_|refine ci ?_|refine br ?_|refine fm ?_|refine fl ?_|refine eX ?_|refine dB ?_|refine ck ?_|refine bo ?_|refine aA ?_|refine bk ?_|refine ct ?_|refine bt ?_|refine aBlkX ?_|refine cm ?_));exact h0.out):p:=h ⟨hq⟩
theorem CU {p q:Prop} (hq:q) (h:Beh q→p:=by intro h0;(repeat (first|(refine ca ?_;first|refine aM ?_|refine b6 ?_|refine aR ?_|refine bh ?_|refine aL ?_|refine bg ?_|refine aX ?_|refine az ?_|refine aV ?_)|(refine eG ?_;first|refine yH ?_|refine bH ?_|refine eC ?_|refine bP ?_|refine cb ?_)|(refine eT ?_;first|refine ya ?_|refine vy (h:=?_)|refine cd ?_|refine bR ?_|refine b9 ?_|refine bu ?_|refine bJ ?_|refine b8 ?_)|(refine eR ?_;first|refine yJ ?_|refine ch ?_|refine d7 ?_|refine b7 ?_|refine bD ?_|refine bN ?_|refine bX ?_|refine bS ?_)|(refine eK ?_;first|refine Im ?_|refine HU ?_|refine IE ?_|refine eF ?_|refine eA ?_|refine bU ?_|refine bG ?_|refine eH ?_|refine bd ?_|refine bc ?_)|(refine bV ?_;first|refine ba ?_|refine bT ?_)|(refine eV ?_;first|refine bI ?_|refine bQ ?_|refine eJ ?_)|(refine bL ?_;first|refine lx ?_|refine mS ?_|refine bO ?_|refine aS ?_|refine aN ?_|refine aW ?_|refine aQ ?_|refine aY ?_|refine lF ?_)|(refine eE ?_;first|refine bZ ?_|refine eB ?_|refine be ?_|refine aP ?_|refine aU ?_)|(refine aK ?_;first|refine aq _ ?_|refine bf ?_|refine aw ?_|refine au ?_|refine ax ?_|refine uA ?_|refine rN ?_|refine rK ?_)|(refine eP ?_;first|refine bW ?_|refine bE ?_|refine bM ?_)|(refine gOp ?_;first|refine eD ?_|refine eM ?_|refine aZ ?_|refine eU ?_|refine eN ?_|refine bK ?_|refine aO ?_|refine cf ?_|refine eO ?_|refine bC ?_|refine bY ?_|refine aT ?_|refine ay ?_|refine cg ?_|refine sNo ?_|refine dU ?_|refine av ?_)));exact h0.out):p:=h ⟨hq⟩
end Go.Proofs.YtnobdioccfeokaaGreatDoor
namespace Go.Proofs.YtnobdioccfeokaaGreatDoor
open Go.RowKit
set_option linter.unusedVariables false
set_option linter.unusedSimpArgs false
set_option maxRecDepth 100000
set_option maxHeartbeats 4000000
attribute [local irreducible] ar Der At
attribute [local irreducible] inR cJ cN iR
abbrev gx (x:Flt):D:=.t [.i x.1,.i x.2.1,.i x.2.2]
theorem pE {s:Srt} {b:Big} {p:Int} (h:p<0):d8 s b p=s.tops:=if_pos h
theorem qt {s:Srt} {b:Big} {n m:Nat} (hn:n<b.nodes.length) (hm:(b.nodes[n]).control=(m:Int)) (hl:m<s.nest.length):d8 s b (n:Int)=s.nest[m]:=by
 unfold d8
 rw [if_neg (by omega),aB b n hn,hm,Int.toNat_natCast,List.getD_eq_getElem?_getD,List.getElem?_eq_getElem hl];rfl
theorem vR (s:Srt) (b:Big) (p:Int) (hp:DY s b p):FnD Tryz.prog 145 [s.D,b.D,.i p] (.d (DI (d8 s b p))):=by
 refine af Tryz.func145 (fun hw W0=>?_)
 rcases hp with hp|⟨n,hn,rfl,c0,c1⟩
 ·refine kgo ?_
  refine aJ (fun h=>?_) (fun h=>absurd hp h)
  rw [pE hp]
  refine kgo ?_
  exact aj
 obtain ⟨m,hm⟩:=Int.eq_ofNat_of_zero_le c0
 have hml:m<s.nest.length:=by omega
 rw [qt hn hm hml]
 refine kgo ?_
 refine cS (n:=m) (fun _=>?_) rfl rfl (congrArg some hm)
 refine kgo ?_
 exact aj
theorem AP (s:Srt) (b:Big) (p:Int) (hp:DY s b p):FnD Tryz.prog 190 [s.D,b.D,.i p] (.d (DI (d8 s b p))):=by
 refine af Tryz.func190 (fun hw W0=>?_)
 rcases hp with hp|⟨n,hn,rfl,c0,c1⟩
 ·refine kgo ?_
  refine aJ (fun h=>?_) (fun h=>absurd hp h)
  rw [pE hp]
  refine kgo ?_
  exact aj
 obtain ⟨m,hm⟩:=Int.eq_ofNat_of_zero_le c0
 have hml:m<s.nest.length:=by omega
 rw [qt hn hm hml]
 refine kgo ?_
 refine cS (n:=m) (fun _=>?_) rfl rfl (congrArg some hm)
 refine kgo ?_
 exact aj
theorem p9 {s:Srt} {b:Big} {i:Nat} (h:i<b.nodes.length):iG s b i=if fp (d8 s b (b.nodes[i]).parent) (b.nodes[i]).control then [] else if (b.nodes[i]).parent<0 then [(1,(i:Int),-1 - (b.nodes[i]).parent)] else [(2,(i:Int),(b.nodes[i]).parent)]:=by unfold iG;rw [aB b i h]
theorem yd (s:Srt) (b:Big) (i:Nat) (hn:i<b.nodes.length) (hp:DY s b (b.nodes[i]).parent):FnD Tryz.prog 93 [s.D,b.D,.i i] (.d (.l 3 ((iG s b i).map gx))):=by
 have f1:=vR s b (b.nodes[i]).parent hp
 have f2:=jJ (d8 s b (b.nodes[i]).parent) (b.nodes[i]).control
 refine af Tryz.func93 (fun hw W0=>?_)
 have hI:=((wfM hw.2.1.2.1).2 _ (List.getElem_mem hn)).2.1
 rw [p9 hn]
 refine kgo ?_
 refine cIf (fun h=>?_) (fun h=>?_)
 ·rw [if_pos h]
  repeat (first|(refine ca ?_;first|refine aM ?_|refine b6 ?_|refine aR ?_|refine bh ?_|refine aL ?_|refine bg ?_|refine aX ?_|refine az ?_|refine aV ?_)|(refine eG ?_;first|refine bH ?_|refine eC ?_|refine bP ?_|refine cb ?_)|(refine eT ?_;first|refine cS (fun _=>?_)|refine cd ?_|refine bR ?_|refine b9 ?_|refine bu ?_|refine bJ ?_|refine b8 ?_)|(refine eR ?_;first|refine ch ?_|refine d7 ?_|refine b7 ?_|refine bD ?_|refine bN ?_|refine bX ?_|refine bS ?_)|(refine eK ?_;first|refine eF ?_|refine eA ?_|refine bU ?_|refine bG ?_|refine eH ?_|refine bd ?_|refine bc ?_)|(refine bV ?_;first|refine cD (d:=6) ?_|refine ba ?_|refine bT ?_)|(refine eV ?_;first|refine dL (d:=6) ?_|refine bI ?_|refine bQ ?_|refine eJ ?_)|(refine bL ?_;first|refine bO ?_|refine aS ?_|refine aN ?_|refine aW ?_|refine aQ ?_|refine aY ?_)|(refine eE ?_;first|refine bZ ?_|refine eB ?_|refine be ?_|refine aP ?_|refine aU ?_)|(refine aK ?_;first|refine aq _ ?_|refine bf ?_|refine aw ?_|refine au ?_|refine ax ?_)|(refine eP ?_;first|refine bW ?_|refine bE ?_|refine bM ?_)|(refine gOp ?_;first|refine eD ?_|refine eM ?_|refine aZ ?_|refine eU ?_|refine eN ?_|refine bK ?_|refine aO ?_|refine cf ?_|refine eO ?_|refine bC ?_|refine bY ?_|refine aT ?_|refine ay ?_|refine cg ?_|refine sNo ?_|refine dU ?_|refine av ?_)|refine dY ?_|refine dq ?_|refine fj ?_|refine bj ?_|refine ci ?_|refine br ?_|refine fm ?_|refine fl ?_|refine eX ?_|refine dB ?_|refine ck ?_|refine bo ?_|refine aA ?_|refine bk ?_|refine ct ?_|refine bt ?_|refine aBlkX ?_|refine cm ?_)
  exact aj
 rw [if_neg (by rw [h];exact Bool.false_ne_true)]
 refine kgo ?_
 refine aJ (fun h2=>?_) (fun h2=>?_)
 ·rw [if_pos h2]
  unfold Wf I64 at hI
  repeat (first|(refine ca ?_;first|refine aM ?_|refine b6 ?_|refine aR ?_|refine bh ?_|refine aL ?_|refine bg ?_|refine aX ?_|refine az ?_|refine aV ?_)|(refine eG ?_;first|refine bH ?_|refine eC ?_|refine bP ?_|refine cb ?_)|(refine eT ?_;first|refine cS (fun _=>?_)|refine cd ?_|refine bR ?_|refine b9 ?_|refine bu ?_|refine bJ ?_|refine b8 ?_)|(refine eR ?_;first|refine ch ?_|refine d7 ?_|refine b7 ?_|refine bD ?_|refine bN ?_|refine bX ?_|refine bS ?_)|(refine eK ?_;first|refine eF ?_|refine eA ?_|refine bU ?_|refine bG ?_|refine eH ?_|refine bd ?_|refine bc ?_)|(refine bV ?_;first|refine cD (d:=6) ?_|refine ba ?_|refine bT ?_)|(refine eV ?_;first|refine dL (d:=6) ?_|refine bI ?_|refine bQ ?_|refine eJ ?_)|(refine bL ?_;first|refine bO ?_|refine aS ?_|refine aN ?_|refine aW ?_|refine aQ ?_|refine aY ?_)|(refine eE ?_;first|refine bZ ?_|refine eB ?_|refine be ?_|refine aP ?_|refine aU ?_)|(refine aK ?_;first|refine aq _ ?_|refine bf ?_|refine aw ?_|refine au ?_|refine ax ?_)|(refine eP ?_;first|refine bW ?_|refine bE ?_|refine bM ?_)|(refine gOp ?_;first|refine eD ?_|refine eM ?_|refine aZ ?_|refine eU ?_|refine eN ?_|refine bK ?_|refine aO ?_|refine cf ?_|refine eO ?_|refine bC ?_|refine bY ?_|refine aT ?_|refine ay ?_|refine cg ?_|refine sNo ?_|refine dU ?_|refine av ?_)|refine dY ?_|refine dq ?_|refine fj ?_|refine bj ?_|refine ci ?_|refine br ?_|refine fm ?_|refine fl ?_|refine eX ?_|refine dB ?_|refine ck ?_|refine bo ?_|refine aA ?_|refine bk ?_|refine ct ?_|refine bt ?_|refine aBlkX ?_|refine cm ?_)
  exact aj
 rw [if_neg h2]
 repeat (first|(refine ca ?_;first|refine aM ?_|refine b6 ?_|refine aR ?_|refine bh ?_|refine aL ?_|refine bg ?_|refine aX ?_|refine az ?_|refine aV ?_)|(refine eG ?_;first|refine bH ?_|refine eC ?_|refine bP ?_|refine cb ?_)|(refine eT ?_;first|refine cS (fun _=>?_)|refine cd ?_|refine bR ?_|refine b9 ?_|refine bu ?_|refine bJ ?_|refine b8 ?_)|(refine eR ?_;first|refine ch ?_|refine d7 ?_|refine b7 ?_|refine bD ?_|refine bN ?_|refine bX ?_|refine bS ?_)|(refine eK ?_;first|refine eF ?_|refine eA ?_|refine bU ?_|refine bG ?_|refine eH ?_|refine bd ?_|refine bc ?_)|(refine bV ?_;first|refine cD (d:=6) ?_|refine ba ?_|refine bT ?_)|(refine eV ?_;first|refine dL (d:=6) ?_|refine bI ?_|refine bQ ?_|refine eJ ?_)|(refine bL ?_;first|refine bO ?_|refine aS ?_|refine aN ?_|refine aW ?_|refine aQ ?_|refine aY ?_)|(refine eE ?_;first|refine bZ ?_|refine eB ?_|refine be ?_|refine aP ?_|refine aU ?_)|(refine aK ?_;first|refine aq _ ?_|refine bf ?_|refine aw ?_|refine au ?_|refine ax ?_)|(refine eP ?_;first|refine bW ?_|refine bE ?_|refine bM ?_)|(refine gOp ?_;first|refine eD ?_|refine eM ?_|refine aZ ?_|refine eU ?_|refine eN ?_|refine bK ?_|refine aO ?_|refine cf ?_|refine eO ?_|refine bC ?_|refine bY ?_|refine aT ?_|refine ay ?_|refine cg ?_|refine sNo ?_|refine dU ?_|refine av ?_)|refine dY ?_|refine dq ?_|refine fj ?_|refine bj ?_|refine ci ?_|refine br ?_|refine fm ?_|refine fl ?_|refine eX ?_|refine dB ?_|refine ck ?_|refine bo ?_|refine aA ?_|refine bk ?_|refine ct ?_|refine bt ?_|refine aBlkX ?_|refine cm ?_)
 exact aj
theorem qh {s:Srt} {b:Big} {ps:List (Int × Int)} {j q:Nat} (hj:j<ps.length) (hs:jB s b ps[j]=(q:Int)) (hq:q<(cy s b ps j).length):cy s b ps (j+1)=(cy s b ps j).set q ((cy s b ps j)[q]+1):=by
 rw [lP s b ps j hj]
 unfold uZ
 rw [hs,Int.toNat_natCast,List.getD_eq_getElem?_getD,List.getElem?_eq_getElem hq];rfl
theorem Io (s:Srt) (b:Big) (l:Int) (hlen:b.nodes.length≤1000) (hlinks:∀i (h:i<b.nodes.length),(b.nodes[i]).links.length≤1000) (hml:s.most.length≤1000) (hok:∀j (h:j<(aD b l).length),zZ s b (aD b l)[j]):FnD Tryz.prog 95 [s.D,b.D,.i l] (.d (DI (onL s b l))):=by
 have f1:=jU b l hlen hlinks
 have hpl:=di b l hlen hlinks
 refine af Tryz.func95 (fun hw W0=>?_)
 unfold onL
 generalize aD b l=ps at *
 refine kgo ?_
 refine bC (n:=s.most.length) (r:=.i 0) ?_ rfl rfl (hb:=by show 8 * s.most.length≤1000000000;omega)
 rw [show List.replicate s.most.length (D.i 0)=(cy s b ps 0).map D.i by show _=(List.replicate s.most.length 0).map D.i;rw [List.map_replicate]]
 refine kgo ?_
 refine ai [3,4,7,8] (fun j:Nat=>j≤ps.length) (fun j=>ps.length - j) (fun j=>[(9,.sy (.d (.i j))),(10014,.tk (.row 1 3 ((cy s b ps j).map .i)))]) 0 (Nat.zero_le _) (fun j hj=>?_)
 refine kgo ?_
 refine aJ (fun h=>?_) (fun h=>?_)
 ·have hlt:j<ps.length:=by omega
  obtain ⟨i,k,hi,hpt,m,hm,hmm,hkk,q,hq,hqm⟩:=hok j hlt
  have h1:(ps[j]).1=(i:Int):=by rw [hpt]
  have h2:(ps[j]).2=(k:Int):=by rw [hpt]
  have hso:jB s b ps[j]=(q:Int):=by rw [hpt];exact ub s b i k m q hi hm hmm hkk hq
  have hcl:=jK s b ps j
  have hql:q<(cy s b ps j).length:=by omega
  have hcn:=qh hlt hso hql
  have hbd:=oB s b ps j (by omega) _ (List.getElem_mem hql)
  refine kgo ?_
  refine cS (n:=i) (fun _=>?_) rfl rfl (congrArg some h1)
  refine kgo ?_
  refine cS (n:=m) (fun _=>?_) rfl rfl (congrArg some hm)
  refine kgo ?_
  have hqe:atI s.sorts[m] (ps[j]).2=(q:Int):=by rw [h2,bF _ k hkk,hq]
  refine bu (n:=q) ?_ rfl rfl rfl (congrArg some hqe)
  refine kgo ?_
  refine bu (n:=q) ?_ rfl rfl rfl (congrArg some hqe)
  refine aq ((cy s b ps j)[q]+1) ?_
  refine kgo ?_
  rw [← hcn]
  exact aa (j+1) hlt (by omega)
 obtain rfl:j=ps.length:=by omega
 repeat (first|(refine ca ?_;first|refine aM ?_|refine b6 ?_|refine aR ?_|refine bh ?_|refine aL ?_|refine bg ?_|refine aX ?_|refine az ?_|refine aV ?_)|(refine eG ?_;first|refine bH ?_|refine eC ?_|refine bP ?_|refine cb ?_)|(refine eT ?_;first|refine cS (fun _=>?_)|refine cd ?_|refine bR ?_|refine b9 ?_|refine bu ?_|refine bJ ?_|refine b8 ?_)|(refine eR ?_;first|refine ch ?_|refine d7 ?_|refine b7 ?_|refine bD ?_|refine bN ?_|refine bX ?_|refine bS ?_)|(refine eK ?_;first|refine eF ?_|refine eA ?_|refine bU ?_|refine bG ?_|refine eH ?_|refine bd ?_|refine bc ?_)|(refine bV ?_;first|refine cD (d:=6) ?_|refine ba ?_|refine bT ?_)|(refine eV ?_;first|refine dL (d:=6) ?_|refine bI ?_|refine bQ ?_|refine eJ ?_)|(refine bL ?_;first|refine bO ?_|refine aS ?_|refine aN ?_|refine aW ?_|refine aQ ?_|refine aY ?_)|(refine eE ?_;first|refine bZ ?_|refine eB ?_|refine be ?_|refine aP ?_|refine aU ?_)|(refine aK ?_;first|refine aq _ ?_|refine bf ?_|refine aw ?_|refine au ?_|refine ax ?_)|(refine eP ?_;first|refine bW ?_|refine bE ?_|refine bM ?_)|(refine gOp ?_;first|refine eD ?_|refine eM ?_|refine aZ ?_|refine eU ?_|refine eN ?_|refine bK ?_|refine aO ?_|refine cf ?_|refine eO ?_|refine bC ?_|refine bY ?_|refine aT ?_|refine ay ?_|refine cg ?_|refine sNo ?_|refine dU ?_|refine av ?_)|refine dY ?_|refine dq ?_|refine fj ?_|refine bj ?_|refine ci ?_|refine br ?_|refine fm ?_|refine fl ?_|refine eX ?_|refine dB ?_|refine ck ?_|refine bo ?_|refine aA ?_|refine bk ?_|refine ct ?_|refine bt ?_|refine aBlkX ?_|refine cm ?_)
 exact aj
theorem BF (s:Srt) (b:Big) (l:Int) (hlen:b.nodes.length≤1000) (hlinks:∀i (h:i<b.nodes.length),(b.nodes[i]).links.length≤1000) (hin:b.inner.length≤1000) (hml:s.most.length≤1000) (hok:∀j (h:j<(aD b l).length),zZ s b (aD b l)[j]):FnD Tryz.prog 192 [s.D,b.D,.i l] (.d (DI (onL s b l))):=by
 have f1:=ky b l hlen hlinks hin
 have hpl:=di b l hlen hlinks
 refine af Tryz.func192 (fun hw W0=>?_)
 unfold onL
 generalize aD b l=ps at *
 refine kgo ?_
 refine bC (n:=s.most.length) (r:=.i 0) ?_ rfl rfl (hb:=by show 8 * s.most.length≤1000000000;omega)
 rw [show List.replicate s.most.length (D.i 0)=(cy s b ps 0).map D.i by show _=(List.replicate s.most.length 0).map D.i;rw [List.map_replicate]]
 refine kgo ?_
 refine ai [3,4,7,22,23] (fun j:Nat=>j≤ps.length) (fun j=>ps.length - j) (fun j=>[(24,.sy (.d (.i j))),(10015,.tk (.row 1 3 ((cy s b ps j).map .i)))]) 0 (Nat.zero_le _) (fun j hj=>?_)
 refine kgo ?_
 refine aJ (fun h=>?_) (fun h=>?_)
 ·have hlt:j<ps.length:=by omega
  obtain ⟨i,k,hi,hpt,m,hm,hmm,hkk,q,hq,hqm⟩:=hok j hlt
  have h1:(ps[j]).1=(i:Int):=by rw [hpt]
  have h2:(ps[j]).2=(k:Int):=by rw [hpt]
  have hso:jB s b ps[j]=(q:Int):=by rw [hpt];exact ub s b i k m q hi hm hmm hkk hq
  have hcl:=jK s b ps j
  have hql:q<(cy s b ps j).length:=by omega
  have hcn:=qh hlt hso hql
  have hbd:=oB s b ps j (by omega) _ (List.getElem_mem hql)
  have hqe:atI s.sorts[m] (ps[j]).2=(q:Int):=by rw [h2,bF _ k hkk,hq]
  refine kgo ?_
  refine cS (n:=i) (fun _=>?_) rfl rfl (congrArg some h1)
  refine kgo ?_
  refine cS (n:=m) (fun _=>?_) rfl rfl (congrArg some hm)
  refine kgo ?_
  refine bu (n:=q) ?_ rfl rfl rfl (congrArg some hqe)
  refine kgo ?_
  refine bu (n:=q) ?_ rfl rfl rfl (congrArg some hqe)
  refine aq ((cy s b ps j)[q]+1) ?_
  refine kgo ?_
  rw [← hcn]
  exact aa (j+1) hlt (by omega)
 obtain rfl:j=ps.length:=by omega
 repeat (first|(refine ca ?_;first|refine aM ?_|refine b6 ?_|refine aR ?_|refine bh ?_|refine aL ?_|refine bg ?_|refine aX ?_|refine az ?_|refine aV ?_)|(refine eG ?_;first|refine bH ?_|refine eC ?_|refine bP ?_|refine cb ?_)|(refine eT ?_;first|refine cS (fun _=>?_)|refine cd ?_|refine bR ?_|refine b9 ?_|refine bu ?_|refine bJ ?_|refine b8 ?_)|(refine eR ?_;first|refine ch ?_|refine d7 ?_|refine b7 ?_|refine bD ?_|refine bN ?_|refine bX ?_|refine bS ?_)|(refine eK ?_;first|refine eF ?_|refine eA ?_|refine bU ?_|refine bG ?_|refine eH ?_|refine bd ?_|refine bc ?_)|(refine bV ?_;first|refine cD (d:=6) ?_|refine ba ?_|refine bT ?_)|(refine eV ?_;first|refine dL (d:=6) ?_|refine bI ?_|refine bQ ?_|refine eJ ?_)|(refine bL ?_;first|refine bO ?_|refine aS ?_|refine aN ?_|refine aW ?_|refine aQ ?_|refine aY ?_)|(refine eE ?_;first|refine bZ ?_|refine eB ?_|refine be ?_|refine aP ?_|refine aU ?_)|(refine aK ?_;first|refine aq _ ?_|refine bf ?_|refine aw ?_|refine au ?_|refine ax ?_)|(refine eP ?_;first|refine bW ?_|refine bE ?_|refine bM ?_)|(refine gOp ?_;first|refine eD ?_|refine eM ?_|refine aZ ?_|refine eU ?_|refine eN ?_|refine bK ?_|refine aO ?_|refine cf ?_|refine eO ?_|refine bC ?_|refine bY ?_|refine aT ?_|refine ay ?_|refine cg ?_|refine sNo ?_|refine dU ?_|refine av ?_)|refine dY ?_|refine dq ?_|refine fj ?_|refine bj ?_|refine ci ?_|refine br ?_|refine fm ?_|refine fl ?_|refine eX ?_|refine dB ?_|refine ck ?_|refine bo ?_|refine aA ?_|refine bk ?_|refine ct ?_|refine bt ?_|refine aBlkX ?_|refine cm ?_)
 exact aj
theorem D7 {many:Int} (hm:many≤4) {l:List (Int × Int)} (h:gg many l=true):∀i (hi:i<l.length),(i:Int)≤4 * (l[i]).1+(l[i]).2∧0≤(l[i]).1∧(l[i]).1<(l[i]).2∧(l[i]).2<many:=by
 have hall:∀i,i<l.length→kf many l i=true:=fun i hi=>List.all_eq_true.1 h i (List.mem_range.2 hi)
 intro i
 induction i with
 | zero=>
  intro hi
  have:=hall 0 hi
  rw [jM many l 0 hi] at this
  simp at this
  omega
 | succ i ih=>
  intro hi
  obtain ⟨h1,h2,h3,h4⟩:=ih (by omega)
  have:=hall (i+1) hi
  rw [jM many l (i+1) hi,show l.getD (i+1 - 1) (0,0)=l[i] by rw [List.getD_eq_getElem?_getD,Nat.add_sub_cancel,List.getElem?_eq_getElem (by omega)];rfl] at this
  unfold hZ at this
  simp at this
  omega
theorem ud {many:Int} (hm:many≤4) {l:List (Int × Int)} (h:gg many l=true):l.length≤16:=by
 rcases Nat.eq_zero_or_pos l.length with h0|h0
 ·omega
 have:=D7 hm h (l.length - 1) (by omega)
 omega
theorem sZ (s:Srt) (c:List Int) {i:Nat} (hi:i<s.apart.length) (h:0≤(s.apart[i]).1∧(s.apart[i]).1<c.length∧0≤(s.apart[i]).2∧(s.apart[i]).2<c.length):dp s c i=(decide (0<atI c (s.apart[i]).1) && decide (0<atI c (s.apart[i]).2)):=by
 obtain ⟨h1,h2,h3,h4⟩:=h
 obtain ⟨x,hx⟩:=Int.eq_ofNat_of_zero_le h1
 obtain ⟨y,hy⟩:=Int.eq_ofNat_of_zero_le h3
 rw [Co s c i x y hi hx hy (by omega) (by omega),hx,hy,bF c x (by omega),bF c y (by omega)]
theorem zj (s:Srt) (l:Int) (c:List Int) (hcl:c.length=s.most.length) (hml:s.most.length≤1000) (hal:s.apart.length≤1000) (hap:∀i (h:i<s.apart.length),0≤(s.apart[i]).1∧(s.apart[i]).1<c.length∧0≤(s.apart[i]).2∧(s.apart[i]).2<c.length):FnD Tryz.prog 94 [s.D,.i l,DI c] (.d (.l 3 ((iN s l c).map gx))):=by
 refine af Tryz.func94 (fun hw W0=>?_)
 refine kgo ?_
 refine ai [1,2,3] (fun i:Nat=>i≤c.length) (fun i=>c.length - i) (fun i=>[(8,.sy (.d (.i i))),(7,.sy (.k 20001)),(20001,.tk (.row 3 167 ((dQ 3 l (ir s c) i).map gx)))]) 0 (Nat.zero_le _) (fun i hi=>?_)
 refine kgo ?_
 refine aJ (fun h=>?_) (fun h=>?_)
 ·have hlt:i<c.length:=by omega
  have hlm:i<s.most.length:=by omega
  have hma:=xq s c i hlm hlt
  have hln:=fV 3 l (ir s c) i
  refine kgo ?_
  refine aJ (fun h2=>?_) (fun h2=>?_)
  ·have hs:(dQ 3 l (ir s c) (i+1)).map gx=(dQ 3 l (ir s c) i).map gx++[.t [.i 3,.i l,.i i]]:=by rw [ma (by rw [hma];exact decide_eq_true h2),List.map_append];rfl
   refine kgo ?_
   exact aa (i+1) hlt (by omega)
  have hs:(dQ 3 l (ir s c) (i+1)).map gx=(dQ 3 l (ir s c) i).map gx:=by rw [nU (by rw [hma];exact decide_eq_false h2)]
  refine kgo ?_
  exact aa (i+1) hlt (by omega)
 obtain rfl:i=c.length:=by omega
 have hl1:=fV 3 l (ir s c) c.length
 unfold iN
 generalize dQ 3 l (ir s c) c.length=f1 at *
 have h00:f1.map gx=(f1++dQ 4 l (dp s c) 0).map gx:=by rw [show dQ 4 l (dp s c) 0 = [] from rfl,List.append_nil]
 refine kgo ?_
 refine ai [1,2,3] (fun i:Nat=>i≤s.apart.length) (fun i=>s.apart.length - i) (fun i=>[(9,.sy (.d (.i i))),(7,.sy (.k 20001)),(20001,.tk (.row 3 167 ((f1++dQ 4 l (dp s c) i).map gx)))]) 0 (Nat.zero_le _) (fun i hi=>?_)
 refine kgo ?_
 refine aJ (fun h=>?_) (fun h=>?_)
 ·have hlt:i<s.apart.length:=by omega
  obtain ⟨a1,a2,a3,a4⟩:=hap i hlt
  have hma:=sZ s c hlt (hap i hlt)
  have hln:=fV 4 l (dp s c) i
  have hsy:dp s c i=true→(f1++dQ 4 l (dp s c) (i+1)).map gx=(f1++dQ 4 l (dp s c) i).map gx++[.t [.i 4,.i l,.i i]]:=fun e=>by rw [ma e,← List.append_assoc,List.map_append];rfl
  have hsn:dp s c i=false→(f1++dQ 4 l (dp s c) (i+1)).map gx=(f1++dQ 4 l (dp s c) i).map gx:=fun e=>by rw [nU e]
  refine kgo ?_
  cases e1:decide (0<atI c (s.apart[i]).1)
  ·have hs:=hsn (by rw [hma,e1];rfl)
   refine kgo ?_
   (repeat refine uu ?_)
   refine kgo ?_
   exact aa (i+1) hlt (by omega)
  refine kgo ?_
  cases e2:decide (0<atI c (s.apart[i]).2)
  ·have hs:=hsn (by rw [hma,e2,Bool.and_false])
   refine kgo ?_
   exact aa (i+1) hlt (by omega)
  have hs:=hsy (by rw [hma,e1,e2];rfl)
  refine kgo ?_
  exact aa (i+1) hlt (by omega)
 obtain rfl:i=s.apart.length:=by omega
 repeat (first|(refine ca ?_;first|refine aM ?_|refine b6 ?_|refine aR ?_|refine bh ?_|refine aL ?_|refine bg ?_|refine aX ?_|refine az ?_|refine aV ?_)|(refine eG ?_;first|refine bH ?_|refine eC ?_|refine bP ?_|refine cb ?_)|(refine eT ?_;first|refine cS (fun _=>?_)|refine cd ?_|refine bR ?_|refine b9 ?_|refine bu ?_|refine bJ ?_|refine b8 ?_)|(refine eR ?_;first|refine ch ?_|refine d7 ?_|refine b7 ?_|refine bD ?_|refine bN ?_|refine bX ?_|refine bS ?_)|(refine eK ?_;first|refine eF ?_|refine eA ?_|refine bU ?_|refine bG ?_|refine eH ?_|refine bd ?_|refine bc ?_)|(refine bV ?_;first|refine cD (d:=6) ?_|refine ba ?_|refine bT ?_)|(refine eV ?_;first|refine dL (d:=6) ?_|refine bI ?_|refine bQ ?_|refine eJ ?_)|(refine bL ?_;first|refine bO ?_|refine aS ?_|refine aN ?_|refine aW ?_|refine aQ ?_|refine aY ?_)|(refine eE ?_;first|refine bZ ?_|refine eB ?_|refine be ?_|refine aP ?_|refine aU ?_)|(refine aK ?_;first|refine aq _ ?_|refine bf ?_|refine aw ?_|refine au ?_|refine ax ?_)|(refine eP ?_;first|refine bW ?_|refine bE ?_|refine bM ?_)|(refine gOp ?_;first|refine eD ?_|refine eM ?_|refine aZ ?_|refine eU ?_|refine eN ?_|refine bK ?_|refine aO ?_|refine cf ?_|refine eO ?_|refine bC ?_|refine bY ?_|refine aT ?_|refine ay ?_|refine cg ?_|refine sNo ?_|refine dU ?_|refine av ?_)|refine dY ?_|refine dq ?_|refine fj ?_|refine bj ?_|refine ci ?_|refine br ?_|refine fm ?_|refine fl ?_|refine eX ?_|refine dB ?_|refine ck ?_|refine bo ?_|refine aA ?_|refine bk ?_|refine ct ?_|refine bt ?_|refine aBlkX ?_|refine cm ?_)
 exact aj
theorem uv (s:Srt) (l:Int) (c:List Int) (hcl:c.length=s.most.length) (hml:s.most.length≤1000) (hal:s.apart.length≤1000) (hap:∀i (h:i<s.apart.length),0≤(s.apart[i]).1∧(s.apart[i]).1<c.length∧0≤(s.apart[i]).2∧(s.apart[i]).2<c.length):FnD Tryz.prog 191 [s.D,.i l,DI c] (.d (.l 3 ((iN s l c).map gx))):=by
 refine af Tryz.func191 (fun hw W0=>?_)
 refine kgo ?_
 refine ai [1,2,3,13,14] (fun i:Nat=>i≤c.length) (fun i=>c.length - i) (fun i=>[(15,.sy (.d (.i i))),(7,.sy (.k 20001)),(20001,.tk (.row 3 167 ((dQ 3 l (ir s c) i).map gx)))]) 0 (Nat.zero_le _) (fun i hi=>?_)
 refine kgo ?_
 refine aJ (fun h=>?_) (fun h=>?_)
 ·have hlt:i<c.length:=by omega
  have hlm:i<s.most.length:=by omega
  have hma:=xq s c i hlm hlt
  have hln:=fV 3 l (ir s c) i
  refine kgo ?_
  refine aJ (fun h2=>?_) (fun h2=>?_)
  ·have hs:(dQ 3 l (ir s c) (i+1)).map gx=(dQ 3 l (ir s c) i).map gx++[.t [.i 3,.i l,.i i]]:=by rw [ma (by rw [hma];exact decide_eq_true h2),List.map_append];rfl
   refine kgo ?_
   exact aa (i+1) hlt (by omega)
  have hs:(dQ 3 l (ir s c) (i+1)).map gx=(dQ 3 l (ir s c) i).map gx:=by rw [nU (by rw [hma];exact decide_eq_false h2)]
  refine kgo ?_
  exact aa (i+1) hlt (by omega)
 obtain rfl:i=c.length:=by omega
 have hl1:=fV 3 l (ir s c) c.length
 unfold iN
 generalize dQ 3 l (ir s c) c.length=f1 at *
 have h00:f1.map gx=(f1++dQ 4 l (dp s c) 0).map gx:=by rw [show dQ 4 l (dp s c) 0 = [] from rfl,List.append_nil]
 refine kgo ?_
 refine ai [1,2,35,36] (fun i:Nat=>i≤s.apart.length) (fun i=>s.apart.length - i) (fun i=>[(37,.sy (.d (.i i))),(7,.sy (.k 20001)),(20001,.tk (.row 3 167 ((f1++dQ 4 l (dp s c) i).map gx)))]) 0 (Nat.zero_le _) (fun i hi=>?_)
 refine kgo ?_
 refine aJ (fun h=>?_) (fun h=>?_)
 ·have hlt:i<s.apart.length:=by omega
  obtain ⟨a1,a2,a3,a4⟩:=hap i hlt
  have hma:=sZ s c hlt (hap i hlt)
  have hln:=fV 4 l (dp s c) i
  have hsy:dp s c i=true→(f1++dQ 4 l (dp s c) (i+1)).map gx=(f1++dQ 4 l (dp s c) i).map gx++[.t [.i 4,.i l,.i i]]:=fun e=>by rw [ma e,← List.append_assoc,List.map_append];rfl
  have hsn:dp s c i=false→(f1++dQ 4 l (dp s c) (i+1)).map gx=(f1++dQ 4 l (dp s c) i).map gx:=fun e=>by rw [nU e]
  refine kgo ?_
  cases e1:decide (0<atI c (s.apart[i]).1)
  ·have hs:=hsn (by rw [hma,e1];rfl)
   refine kgo ?_
   (repeat refine uu ?_)
   refine kgo ?_
   exact aa (i+1) hlt (by omega)
  refine kgo ?_
  cases e2:decide (0<atI c (s.apart[i]).2)
  ·have hs:=hsn (by rw [hma,e2,Bool.and_false])
   refine kgo ?_
   exact aa (i+1) hlt (by omega)
  have hs:=hsy (by rw [hma,e1,e2];rfl)
  refine kgo ?_
  exact aa (i+1) hlt (by omega)
 obtain rfl:i=s.apart.length:=by omega
 repeat (first|(refine ca ?_;first|refine aM ?_|refine b6 ?_|refine aR ?_|refine bh ?_|refine aL ?_|refine bg ?_|refine aX ?_|refine az ?_|refine aV ?_)|(refine eG ?_;first|refine bH ?_|refine eC ?_|refine bP ?_|refine cb ?_)|(refine eT ?_;first|refine cS (fun _=>?_)|refine cd ?_|refine bR ?_|refine b9 ?_|refine bu ?_|refine bJ ?_|refine b8 ?_)|(refine eR ?_;first|refine ch ?_|refine d7 ?_|refine b7 ?_|refine bD ?_|refine bN ?_|refine bX ?_|refine bS ?_)|(refine eK ?_;first|refine eF ?_|refine eA ?_|refine bU ?_|refine bG ?_|refine eH ?_|refine bd ?_|refine bc ?_)|(refine bV ?_;first|refine cD (d:=6) ?_|refine ba ?_|refine bT ?_)|(refine eV ?_;first|refine dL (d:=6) ?_|refine bI ?_|refine bQ ?_|refine eJ ?_)|(refine bL ?_;first|refine bO ?_|refine aS ?_|refine aN ?_|refine aW ?_|refine aQ ?_|refine aY ?_)|(refine eE ?_;first|refine bZ ?_|refine eB ?_|refine be ?_|refine aP ?_|refine aU ?_)|(refine aK ?_;first|refine aq _ ?_|refine bf ?_|refine aw ?_|refine au ?_|refine ax ?_)|(refine eP ?_;first|refine bW ?_|refine bE ?_|refine bM ?_)|(refine gOp ?_;first|refine eD ?_|refine eM ?_|refine aZ ?_|refine eU ?_|refine eN ?_|refine bK ?_|refine aO ?_|refine cf ?_|refine eO ?_|refine bC ?_|refine bY ?_|refine aT ?_|refine ay ?_|refine cg ?_|refine sNo ?_|refine dU ?_|refine av ?_)|refine dY ?_|refine dq ?_|refine fj ?_|refine bj ?_|refine ci ?_|refine br ?_|refine fm ?_|refine fl ?_|refine eX ?_|refine dB ?_|refine ck ?_|refine bo ?_|refine aA ?_|refine bk ?_|refine ct ?_|refine bt ?_|refine aBlkX ?_|refine cm ?_)
 exact aj
theorem jL (s:Srt) (b:Big) (l:Nat):(i8 s b l).length≤s.most.length+s.apart.length:=by
 unfold i8 iN
 have h1:=fV 3 l (ir s (onL s b l)) (onL s b l).length
 have h2:=fV 4 l (dp s (onL s b l)) s.apart.length
 have h3:=pi s b l
 rw [List.length_append]
 omega
theorem pc {s:Srt} {b:Big} (h1:s.apart.length≤16) (h2:s.most.length≤4) (n:Nat):(dZ s b n).length≤n * 20:=by
 induction n with
 | zero=>exact Nat.le_refl _
 | succ n ih=>
  have:=jL s b n
  rw [jC,List.length_append]
  omega
theorem yG {sig:List Ctl} (s:Srt) (b:Big) (hsB:gm sig s=true) (hbB:aH sig b=true) (hin:b.inner.length≤1000):FnD Tryz.prog 48 [s.D,b.D] (.d (.l 3 ((ff s b).map gx))):=by
 have d:=bw hbB
 have hm4:=As hsB
 have hlk:=xx hbB
 have hfew:s.apart.length≤16:=ud (many:=s.most.length) (by omega) (fI hsB).2.2.2.2
 have he:=bB d.edges
 have hnn:=d.nodes
 have hln:((ak b:Nat):Int)=b.edges+b.outer.length:=by unfold ak;omega
 have hfl:=jL s b
 have hfk:=pc (s:=s) (b:=b) hfew (by omega)
 refine af Tryz.func48 (fun hw W0=>?_)
 refine kgo ?_
 refine ai [2,3] (fun i:Nat=>i≤b.nodes.length) (fun i=>b.nodes.length - i) (fun i=>[(6,.sy (.d (.i i))),(5,.sy (.k 20001)),(20001,.tk (.row 3 167 ((fF s b i).map gx)))]) 0 (Nat.zero_le _) (fun i hi=>?_)
 refine kgo ?_
 refine aJ (fun h=>?_) (fun h=>?_)
 ·have hlt:i<b.nodes.length:=by omega
  have hq:=i6 s b i
  have hql:=lw s b i
  have hs:(fF s b (i+1)).map gx=(fF s b i++iG s b i).map gx:=by rw [kh]
  have f1:=yd s b i hlt (E6 hsB hbB i hlt)
  refine kgo ?_
  exact aa (i+1) hlt (by omega)
 obtain rfl:i=b.nodes.length:=by omega
 have hq1:=i6 s b b.nodes.length
 unfold ff
 generalize fF s b b.nodes.length=g1 at *
 have h00:g1.map gx=(g1++dZ s b 0).map gx:=by rw [show dZ s b 0 = [] from rfl,List.append_nil]
 refine kgo ?_
 refine ai [2,3] (fun i:Nat=>i≤ak b) (fun i=>ak b - i) (fun i=>[(7,.sy (.d (.i i))),(5,.sy (.k 20001)),(20001,.tk (.row 3 167 ((g1++dZ s b i).map gx)))]) 0 (Nat.zero_le _) (fun i hi=>?_)
 refine kgo ?_
 refine aJ (fun h=>?_) (fun h=>?_)
 ·have hlt:i<ak b:=by omega
  have f1:=Io s b (i:Int) hnn d.links (by omega) (fun j hj=>BC hsB hbB i j hj)
  have f2:=zj s (i:Int) (onL s b i) (pi s b i) (by omega) (by omega) (fun j hj=>by rw [pi];exact w0 hsB j hj)
  have hq:=hfk i
  have hq2:=hfl i
  have hs:(g1++dZ s b (i+1)).map gx=((g1++dZ s b i)++iN s i (onL s b i)).map gx:=by rw [jC,← List.append_assoc];rfl
  have hsl:(iN s i (onL s b i)).length≤20:=by show (i8 s b i).length≤20;omega
  have hgl:(g1++dZ s b i).length≤2000:=by rw [List.length_append];omega
  refine kgo ?_
  exact aa (i+1) hlt (by omega)
 rw [show i=ak b by omega]
 repeat (first|(refine ca ?_;first|refine aM ?_|refine b6 ?_|refine aR ?_|refine bh ?_|refine aL ?_|refine bg ?_|refine aX ?_|refine az ?_|refine aV ?_)|(refine eG ?_;first|refine bH ?_|refine eC ?_|refine bP ?_|refine cb ?_)|(refine eT ?_;first|refine cS (fun _=>?_)|refine cd ?_|refine bR ?_|refine b9 ?_|refine bu ?_|refine bJ ?_|refine b8 ?_)|(refine eR ?_;first|refine ch ?_|refine d7 ?_|refine b7 ?_|refine bD ?_|refine bN ?_|refine bX ?_|refine bS ?_)|(refine eK ?_;first|refine eF ?_|refine eA ?_|refine bU ?_|refine bG ?_|refine eH ?_|refine bd ?_|refine bc ?_)|(refine bV ?_;first|refine cD (d:=4) ?_|refine ba ?_|refine bT ?_)|(refine eV ?_;first|refine dL (d:=4) ?_|refine bI ?_|refine bQ ?_|refine eJ ?_)|(refine bL ?_;first|refine bO ?_|refine aS ?_|refine aN ?_|refine aW ?_|refine aQ ?_|refine aY ?_)|(refine eE ?_;first|refine bZ ?_|refine eB ?_|refine be ?_|refine aP ?_|refine aU ?_)|(refine aK ?_;first|refine aq _ ?_|refine bf ?_|refine aw ?_|refine au ?_|refine ax ?_)|(refine eP ?_;first|refine bW ?_|refine bE ?_|refine bM ?_)|(refine gOp ?_;first|refine eD ?_|refine eM ?_|refine aZ ?_|refine eU ?_|refine eN ?_|refine bK ?_|refine aO ?_|refine cf ?_|refine eO ?_|refine bC ?_|refine bY ?_|refine aT ?_|refine ay ?_|refine cg ?_|refine sNo ?_|refine dU ?_|refine av ?_)|refine dY ?_|refine dq ?_|refine fj ?_|refine bj ?_|refine ci ?_|refine br ?_|refine fm ?_|refine fl ?_|refine eX ?_|refine dB ?_|refine ck ?_|refine bo ?_|refine aA ?_|refine bk ?_|refine ct ?_|refine bt ?_|refine aBlkX ?_|refine cm ?_)
 exact aj
theorem Dj {sig:List Ctl} (s:Srt) (b:Big) (hsB:gm sig s=true) (hbB:aH sig b=true) (hin:b.inner.length≤1000):FnD Tryz.prog 120 [s.D,b.D] (.d (.l 3 ((ff s b).map gx))):=by
 have d:=bw hbB
 have hm4:=As hsB
 have hlk:=xx hbB
 have hfew:s.apart.length≤16:=ud (many:=s.most.length) (by omega) (fI hsB).2.2.2.2
 have he:=bB d.edges
 have hnn:=d.nodes
 have hln:((ak b:Nat):Int)=b.edges+b.outer.length:=by unfold ak;omega
 have hfl:=jL s b
 have hfk:=pc (s:=s) (b:=b) hfew (by omega)
 refine af Tryz.func120 (fun hw W0=>?_)
 refine kgo ?_
 refine ai [2,3,11,12] (fun i:Nat=>i≤b.nodes.length) (fun i=>b.nodes.length - i) (fun i=>[(13,.sy (.d (.i i))),(5,.sy (.k 20001)),(20001,.tk (.row 3 167 ((fF s b i).map gx)))]) 0 (Nat.zero_le _) (fun i hi=>?_)
 refine kgo ?_
 refine aJ (fun h=>?_) (fun h=>?_)
 ·have hlt:i<b.nodes.length:=by omega
  have hq:=i6 s b i
  have hql:=lw s b i
  have hs:(fF s b (i+1)).map gx=(fF s b i++iG s b i).map gx:=by rw [kh]
  have f1:=AP s b (b.nodes[i]).parent (E6 hsB hbB i hlt)
  have f2:=fc (d8 s b (b.nodes[i]).parent) (b.nodes[i]).control
  have hI:=((wfM hw.2.1.2.1).2 _ (List.getElem_mem hlt)).2.1
  have hpl:=p9 (s:=s) hlt
  refine kgo ?_
  refine cIf (fun h2=>?_) (fun h2=>?_)
  ·rw [if_pos h2] at hpl
   rw [hpl,List.append_nil] at hs
   refine kgo ?_
   exact aa (i+1) hlt (by omega)
  rw [if_neg (by rw [h2];exact Bool.false_ne_true)] at hpl
  refine kgo ?_
  refine aJ (fun h3=>?_) (fun h3=>?_)
  ·rw [if_pos h3] at hpl
   rw [hpl,List.map_append] at hs
   unfold Wf I64 at hI
   refine kgo ?_
   exact aa (i+1) hlt (by omega)
  rw [if_neg h3] at hpl
  rw [hpl,List.map_append] at hs
  refine kgo ?_
  exact aa (i+1) hlt (by omega)
 obtain rfl:i=b.nodes.length:=by omega
 have hq1:=i6 s b b.nodes.length
 unfold ff
 generalize fF s b b.nodes.length=g1 at *
 have h00:g1.map gx=(g1++dZ s b 0).map gx:=by rw [show dZ s b 0 = [] from rfl,List.append_nil]
 refine kgo ?_
 refine ai [2,3,52] (fun i:Nat=>i≤ak b) (fun i=>ak b - i) (fun i=>[(53,.sy (.d (.i i))),(5,.sy (.k 20001)),(20001,.tk (.row 3 167 ((g1++dZ s b i).map gx)))]) 0 (Nat.zero_le _) (fun i hi=>?_)
 refine kgo ?_
 refine aJ (fun h=>?_) (fun h=>?_)
 ·have hlt:i<ak b:=by omega
  have f1:=BF s b (i:Int) hnn d.links hin (by omega) (fun j hj=>BC hsB hbB i j hj)
  have f2:=uv s (i:Int) (onL s b i) (pi s b i) (by omega) (by omega) (fun j hj=>by rw [pi];exact w0 hsB j hj)
  have hq:=hfk i
  have hq2:=hfl i
  have hs:(g1++dZ s b (i+1)).map gx=((g1++dZ s b i)++iN s i (onL s b i)).map gx:=by rw [jC,← List.append_assoc];rfl
  have hsl:(iN s i (onL s b i)).length≤20:=by show (i8 s b i).length≤20;omega
  have hgl:(g1++dZ s b i).length≤2000:=by rw [List.length_append];omega
  refine kgo ?_
  exact aa (i+1) hlt (by omega)
 rw [show i=ak b by omega]
 repeat (first|(refine ca ?_;first|refine aM ?_|refine b6 ?_|refine aR ?_|refine bh ?_|refine aL ?_|refine bg ?_|refine aX ?_|refine az ?_|refine aV ?_)|(refine eG ?_;first|refine bH ?_|refine eC ?_|refine bP ?_|refine cb ?_)|(refine eT ?_;first|refine cS (fun _=>?_)|refine cd ?_|refine bR ?_|refine b9 ?_|refine bu ?_|refine bJ ?_|refine b8 ?_)|(refine eR ?_;first|refine ch ?_|refine d7 ?_|refine b7 ?_|refine bD ?_|refine bN ?_|refine bX ?_|refine bS ?_)|(refine eK ?_;first|refine eF ?_|refine eA ?_|refine bU ?_|refine bG ?_|refine eH ?_|refine bd ?_|refine bc ?_)|(refine bV ?_;first|refine cD (d:=4) ?_|refine ba ?_|refine bT ?_)|(refine eV ?_;first|refine dL (d:=4) ?_|refine bI ?_|refine bQ ?_|refine eJ ?_)|(refine bL ?_;first|refine bO ?_|refine aS ?_|refine aN ?_|refine aW ?_|refine aQ ?_|refine aY ?_)|(refine eE ?_;first|refine bZ ?_|refine eB ?_|refine be ?_|refine aP ?_|refine aU ?_)|(refine aK ?_;first|refine aq _ ?_|refine bf ?_|refine aw ?_|refine au ?_|refine ax ?_)|(refine eP ?_;first|refine bW ?_|refine bE ?_|refine bM ?_)|(refine gOp ?_;first|refine eD ?_|refine eM ?_|refine aZ ?_|refine eU ?_|refine eN ?_|refine bK ?_|refine aO ?_|refine cf ?_|refine eO ?_|refine bC ?_|refine bY ?_|refine aT ?_|refine ay ?_|refine cg ?_|refine sNo ?_|refine dU ?_|refine av ?_)|refine dY ?_|refine dq ?_|refine fj ?_|refine bj ?_|refine ci ?_|refine br ?_|refine fm ?_|refine fl ?_|refine eX ?_|refine dB ?_|refine ck ?_|refine bo ?_|refine aA ?_|refine bk ?_|refine ct ?_|refine bt ?_|refine aBlkX ?_|refine cm ?_)
 exact aj
theorem sn (l:List Flt) (g:Nat) (cs:List D) (p:Flt→Bool) (hct:(cs.all fun r=>!isT r)=true) (hp:∀x∈l,FnD Tryz.prog g ([gx x]++cs) (.d (.b (p x)))):FnD Tryz.prog 188 [.l 3 (l.map gx),.f g cs] (.d (.i (nK p l))):=by
 refine af Tryz.func188 (fun hw W0=>?_)
 have hl:=(wfM hw.1).1
 refine kgo ?_
 refine ai [0,1,7] (fun i:Nat=>i≤l.length∧(l.take i).any p=false) (fun i=>l.length - i) (fun i=>[(8,.sy (.d (.i i)))]) 0 ⟨Nat.zero_le _,rfl⟩ (fun i hi=>?_)
 refine kgo ?_
 refine aJ (fun h=>?_) (fun h=>?_)
 ·have hlt:i<l.length:=by omega
  have f1:=hp _ (List.getElem_mem hlt)
  refine kgo ?_
  refine cIf (fun h2=>?_) (fun h2=>?_)
  ·refine kgo ?_
   rw [mO hlt h2 hi.2]
   exact aj
  ·refine kgo ?_
   exact aa (i+1) ⟨hlt,km hlt hi.2 h2⟩ (by omega)
 refine kgo ?_
 rw [lv (mP (by omega) hi.2)]
 exact aj
theorem oD (l:List Flt) (g:Nat) (cs:List D) (p:Flt→Bool) (hct:(cs.all fun r=>!isT r)=true) (hp:∀x∈l,FnD Tryz.prog g ([gx x]++cs) (.d (.b (p x)))):FnD Tryz.prog 119 [.l 3 (l.map gx),.f g cs] (.d (.b (l.any p))):=by
 refine af Tryz.func119 (fun hw W0=>?_)
 have f1:=sn l g cs p hct hp
 have hr:=eh p l
 have hq:=ku p l
 refine kgo ?_
 rw [← hq]
 exact aj
theorem uT (x:Flt):FnD Tryz.prog 121 [gx x,.p (.b false)] (.d (.b true)):=by
 refine af Tryz.func121 (fun hw W0=>?_)
 refine kgo ?_
 exact aj
theorem xZ {sig:List Ctl} (s:Srt) (b:Big) (hsB:gm sig s=true) (hbB:aH sig b=true) (hin:b.inner.length≤1000):FnD Tryz.prog 66 [s.D,b.D,.b false] (.d (.b (ff s b).isEmpty)):=by
 have f1:=Dj s b hsB hbB hin
 have f2:=oD (ff s b) 121 [.p (.b false)] (fun _=>true) rfl (fun x _=>uT x)
 rw [show (ff s b).any (fun _=>true) = !(ff s b).isEmpty by cases ff s b <;> rfl] at f2
 refine af Tryz.func66 (fun hw W0=>?_)
 refine dY ?_
 refine dq ?_
 refine CU ?_
 refine dB (bo ?_)
 refine BW 5 (.b false) ?_
 refine kgo ?_
 rw [Bool.not_not]
 exact aj
end Go.Proofs.YtnobdioccfeokaaGreatDoor
