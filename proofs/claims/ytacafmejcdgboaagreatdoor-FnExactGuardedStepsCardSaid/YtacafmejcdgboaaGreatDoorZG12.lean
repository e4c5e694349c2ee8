/-
  Proved facts that the law leans on.
-/
import Derived.Test.YtacafmejcdgboaaGreatDoorZG5
import Derived.Test.YtacafmejcdgboaaGreatDoorZG6
import Derived.Test.YtacafmejcdgboaaGreatDoorZG9
import Derived.Test.YtacafmejcdgboaaGreatDoorZG11
import Derived.Shelf.Strings.Trim
import Derived.Shelf.Small.Utf8
import Derived.Shelf.Small.Bits
import Derived.Shelf.Small.Strs
import Derived.Shelf.Small.Wraps
import Derived.Shelf.Strconv.Itoa0
import Derived.Shelf.Strings.Search1
import Derived.Shelf.Sort.Plain
import Derived.Shelf.Strings.Runes
import Derived.Shelf.Strings.AsciiSet
import Derived.Shelf.Bits.Mul64
import Derived.Shelf.Unicode.DecodeSlow
import Derived.Shelf.Unicode.DecodeAny
import Derived.Shelf.Unicode.DecodeLast
import Derived.Shelf.Slices.Turned
import Derived.Shelf.Slices.Equal
import Derived.Ground.Names2Prog
import Derived.Shelf.Slices.Clone
import Derived.Shelf.Slices.CompactI
import Derived.Shelf.Slices.CompactS
import Derived.Shelf.Slices.SearchI
import Derived.Shelf.Slices.Cells
import Derived.Shelf.Slices.In.SortNone
import Derived.Shelf.Slices.Empties2
import Derived.Ground.SlgnProg
import Derived.Shelf.SlicesE.Equal
import Derived.Shelf.SlicesE.Compact
import Derived.Shelf.SlicesE.Clone
import Derived.Ground.SlgfProg
import Derived.Shelf.SlicesE.IndexFunc
import Derived.Shelf.SlicesE.DeleteFunc
import Derived.Test.YtacafmejcdgboaaGreatDoorProg
import Derived.Lib.RowBridge
import Derived.ArgAppend
import Derived.Deep.Onto
namespace Go.Proofs
open Go.Shelf
def Tryz.lays189_ren : Go.Shelf.Ren := ⟨fun | 189 => 262 | 125 => 267 | 257 => 287 | 128 => 298 | 129 => 299 | 294 => 320 | 295 => 321 | 296 => 322 | 297 => 323 | 298 => 324 | 299 => 325 | 216 => 326 | 300 => 327 | 301 => 328 | 328 => 349 | 329 => 331 | 330 => 332 | 331 => 350 | 332 => 351 | 215 => 352 | 343 => 368 | n => n, fun | 28 => 25 | 3 => 3 | 46 => 264 | 0 => 0 | 51 => 276 | 53 => 279 | 4 => 4 | 183 => 286 | 182 => 285 | 131 => 226 | 5 => 5 | 9 => 9 | 218 => 316 | 222 => 320 | 228 => 339 | 229 => 340 | n => n, fun | n => n⟩
theorem Tryz.lays189 : Go.Proofs.Lays.n189 Tryz.prog Tryz.lays189_ren := {
  mixed := by kernel_rfl
  f125 := Tryz.func267.trans (congrArg some (by kernel_rfl))
  f128 := Tryz.func298.trans (congrArg some (by kernel_rfl))
  f129 := Tryz.func299.trans (congrArg some (by kernel_rfl))
  f189 := Tryz.func262.trans (congrArg some (by kernel_rfl))
  f215 := Tryz.func352.trans (congrArg some (by kernel_rfl))
  f216 := Tryz.func326.trans (congrArg some (by kernel_rfl))
  f257 := Tryz.func287.trans (congrArg some (by kernel_rfl))
  f294 := Tryz.func320.trans (congrArg some (by kernel_rfl))
  f295 := Tryz.func321.trans (congrArg some (by kernel_rfl))
  f296 := Tryz.func322.trans (congrArg some (by kernel_rfl))
  f297 := Tryz.func323.trans (congrArg some (by kernel_rfl))
  f298 := Tryz.func324.trans (congrArg some (by kernel_rfl))
  f299 := Tryz.func325.trans (congrArg some (by kernel_rfl))
  f300 := Tryz.func327.trans (congrArg some (by kernel_rfl))
  f301 := Tryz.func328.trans (congrArg some (by kernel_rfl))
  f328 := Tryz.func349.trans (congrArg some (by kernel_rfl))
  f329 := Tryz.func331.trans (congrArg some (by kernel_rfl))
  f330 := Tryz.func332.trans (congrArg some (by kernel_rfl))
  f331 := Tryz.func350.trans (congrArg some (by kernel_rfl))
  f332 := Tryz.func351.trans (congrArg some (by kernel_rfl))
  f343 := Tryz.func368.trans (congrArg some (by kernel_rfl))
  t0 := Tryz.underlying0
  a0 := Tryz.isAgg0
  z0 := Tryz.sizeOf0
  v0 := Tryz.zeroValue0
  t3 := Tryz.underlying3
  a3 := Tryz.isAgg3
  z3 := Tryz.sizeOf3
  v3 := Tryz.zeroValue3
  t4 := Tryz.underlying4
  a4 := Tryz.isAgg4
  z4 := Tryz.sizeOf4
  v4 := Tryz.zeroValue4
  t5 := Tryz.underlying5
  a5 := Tryz.isAgg5
  z5 := Tryz.sizeOf5
  v5 := Tryz.zeroValue5
  t9 := Tryz.underlying9
  a9 := Tryz.isAgg9
  z9 := Tryz.sizeOf9
  v9 := Tryz.zeroValue9
  t28 := Tryz.underlying25
  a28 := Tryz.isAgg25
  z28 := Tryz.sizeOf25
  v28 := Tryz.zeroValue25
  t46 := Tryz.underlying264
  a46 := Tryz.isAgg264
  z46 := Tryz.sizeOf264
  v46 := Tryz.zeroValue264
  t51 := Tryz.underlying276
  a51 := Tryz.isAgg276
  z51 := Tryz.sizeOf276
  v51 := Tryz.zeroValue276
  t53 := Tryz.underlying279
  a53 := Tryz.isAgg279
  z53 := Tryz.sizeOf279
  v53 := Tryz.zeroValue279
  t131 := Tryz.underlying226
  a131 := Tryz.isAgg226
  z131 := Tryz.sizeOf226
  v131 := Tryz.zeroValue226
  t182 := Tryz.underlying285
  a182 := Tryz.isAgg285
  z182 := Tryz.sizeOf285
  v182 := Tryz.zeroValue285
  t183 := Tryz.underlying286
  a183 := Tryz.isAgg286
  z183 := Tryz.sizeOf286
  v183 := Tryz.zeroValue286
  t218 := Tryz.underlying316
  a218 := Tryz.isAgg316
  z218 := Tryz.sizeOf316
  v218 := Tryz.zeroValue316
  t222 := Tryz.underlying320
  a222 := Tryz.isAgg320
  z222 := Tryz.sizeOf320
  v222 := Tryz.zeroValue320
  t228 := Tryz.underlying339
  a228 := Tryz.isAgg339
  z228 := Tryz.sizeOf339
  v228 := Tryz.zeroValue339
  t229 := Tryz.underlying340
  a229 := Tryz.isAgg340
  z229 := Tryz.sizeOf340
  v229 := Tryz.zeroValue340 }
open Go.Sort Go.RowKit in
theorem Tryz.slices_Sort_int (blk off cap : Nat) (zs : List Int) (w : World) (hH : Holds (Value.int .i64) w blk off zs.toArray) (hblk : blk < w.heap.size) (hsz : zs.length < 4611686018427387904) :
    Calls Tryz.prog 262 #[.slice (some ⟨blk, off, none⟩) zs.length cap] w fun e w' =>
      e = .returned (.tuple #[]) ∧ ∃ n os, w' = grow (putRow (Value.int .i64) (Sort.ahead w n) blk off (zs.mergeSort fun x y => decide (x ≤ y)).toArray) os := Any.slices_Sort_int Tryz.lays189 blk off cap zs w hH hblk hsz
def Tryz.lays190_ren : Go.Shelf.Ren := ⟨fun | 190 => 288 | 125 => 267 | 258 => 329 | 128 => 298 | 129 => 299 | 302 => 353 | 303 => 354 | 304 => 355 | 305 => 356 | 306 => 357 | 307 => 358 | 308 => 359 | 309 => 360 | 310 => 361 | 333 => 369 | 329 => 331 | 330 => 332 | 334 => 370 | 335 => 371 | 336 => 372 | 344 => 377 | n => n, fun | 31 => 26 | 9 => 9 | 3 => 3 | 46 => 264 | 0 => 0 | 51 => 276 | 53 => 279 | 4 => 4 | 183 => 286 | 182 => 285 | 131 => 226 | 5 => 5 | 218 => 316 | 222 => 320 | 228 => 339 | 229 => 340 | n => n, fun | n => n⟩
theorem Tryz.lays190 : Go.Proofs.Lays.n190 Tryz.prog Tryz.lays190_ren := {
  mixed := by kernel_rfl
  f125 := Tryz.func267.trans (congrArg some (by kernel_rfl))
  f128 := Tryz.func298.trans (congrArg some (by kernel_rfl))
  f129 := Tryz.func299.trans (congrArg some (by kernel_rfl))
  f190 := Tryz.func288.trans (congrArg some (by kernel_rfl))
  f258 := Tryz.func329.trans (congrArg some (by kernel_rfl))
  f302 := Tryz.func353.trans (congrArg some (by kernel_rfl))
  f303 := Tryz.func354.trans (congrArg some (by kernel_rfl))
  f304 := Tryz.func355.trans (congrArg some (by kernel_rfl))
  f305 := Tryz.func356.trans (congrArg some (by kernel_rfl))
  f306 := Tryz.func357.trans (congrArg some (by kernel_rfl))
  f307 := Tryz.func358.trans (congrArg some (by kernel_rfl))
  f308 := Tryz.func359.trans (congrArg some (by kernel_rfl))
  f309 := Tryz.func360.trans (congrArg some (by kernel_rfl))
  f310 := Tryz.func361.trans (congrArg some (by kernel_rfl))
  f329 := Tryz.func331.trans (congrArg some (by kernel_rfl))
  f330 := Tryz.func332.trans (congrArg some (by kernel_rfl))
  f333 := Tryz.func369.trans (congrArg some (by kernel_rfl))
  f334 := Tryz.func370.trans (congrArg some (by kernel_rfl))
  f335 := Tryz.func371.trans (congrArg some (by kernel_rfl))
  f336 := Tryz.func372.trans (congrArg some (by kernel_rfl))
  f344 := Tryz.func377.trans (congrArg some (by kernel_rfl))
  t0 := Tryz.underlying0
  a0 := Tryz.isAgg0
  z0 := Tryz.sizeOf0
  v0 := Tryz.zeroValue0
  t3 := Tryz.underlying3
  a3 := Tryz.isAgg3
  z3 := Tryz.sizeOf3
  v3 := Tryz.zeroValue3
  t4 := Tryz.underlying4
  a4 := Tryz.isAgg4
  z4 := Tryz.sizeOf4
  v4 := Tryz.zeroValue4
  t5 := Tryz.underlying5
  a5 := Tryz.isAgg5
  z5 := Tryz.sizeOf5
  v5 := Tryz.zeroValue5
  t9 := Tryz.underlying9
  a9 := Tryz.isAgg9
  z9 := Tryz.sizeOf9
  v9 := Tryz.zeroValue9
  t31 := Tryz.underlying26
  a31 := Tryz.isAgg26
  z31 := Tryz.sizeOf26
  v31 := Tryz.zeroValue26
  t46 := Tryz.underlying264
  a46 := Tryz.isAgg264
  z46 := Tryz.sizeOf264
  v46 := Tryz.zeroValue264
  t51 := Tryz.underlying276
  a51 := Tryz.isAgg276
  z51 := Tryz.sizeOf276
  v51 := Tryz.zeroValue276
  t53 := Tryz.underlying279
  a53 := Tryz.isAgg279
  z53 := Tryz.sizeOf279
  v53 := Tryz.zeroValue279
  t131 := Tryz.underlying226
  a131 := Tryz.isAgg226
  z131 := Tryz.sizeOf226
  v131 := Tryz.zeroValue226
  t182 := Tryz.underlying285
  a182 := Tryz.isAgg285
  z182 := Tryz.sizeOf285
  v182 := Tryz.zeroValue285
  t183 := Tryz.underlying286
  a183 := Tryz.isAgg286
  z183 := Tryz.sizeOf286
  v183 := Tryz.zeroValue286
  t218 := Tryz.underlying316
  a218 := Tryz.isAgg316
  z218 := Tryz.sizeOf316
  v218 := Tryz.zeroValue316
  t222 := Tryz.underlying320
  a222 := Tryz.isAgg320
  z222 := Tryz.sizeOf320
  v222 := Tryz.zeroValue320
  t228 := Tryz.underlying339
  a228 := Tryz.isAgg339
  z228 := Tryz.sizeOf339
  v228 := Tryz.zeroValue339
  t229 := Tryz.underlying340
  a229 := Tryz.isAgg340
  z229 := Tryz.sizeOf340
  v229 := Tryz.zeroValue340 }
open Go.Sort Go.RowKit in
theorem Tryz.slices_Sort_string (blk off cap : Nat) (ss : List (List UInt8)) (w : World) (hH : Holds encStr w blk off ss.toArray) (hblk : blk < w.heap.size) (hsz : ss.length < 4611686018427387904) :
    Calls Tryz.prog 288 #[.slice (some ⟨blk, off, none⟩) ss.length cap] w fun e w' =>
      e = .returned (.tuple #[]) ∧ ∃ n os, w' = grow (putRow encStr (Sort.ahead w n) blk off (ss.mergeSort fun x y => decide (x ≤ y)).toArray) os := Any.slices_Sort_string Tryz.lays190 blk off cap ss w hH hblk hsz
def Tryz.laysNm220_ren : Go.Shelf.Ren := ⟨fun | 20 => 263 | n => n, fun | 22 => 25 | 3 => 3 | 4 => 4 | 0 => 0 | n => n, fun | n => n⟩
theorem Tryz.laysNm220 : Go.Proofs.Lays2.n20 Tryz.prog Tryz.laysNm220_ren := {
  mixed := by kernel_rfl
  f20 := Tryz.func263.trans (congrArg some (by kernel_rfl))
  t0 := Tryz.underlying0
  a0 := Tryz.isAgg0
  z0 := Tryz.sizeOf0
  v0 := Tryz.zeroValue0
  t3 := Tryz.underlying3
  a3 := Tryz.isAgg3
  z3 := Tryz.sizeOf3
  v3 := Tryz.zeroValue3
  t4 := Tryz.underlying4
  a4 := Tryz.isAgg4
  z4 := Tryz.sizeOf4
  v4 := Tryz.zeroValue4
  t22 := Tryz.underlying25
  a22 := Tryz.isAgg25
  z22 := Tryz.sizeOf25
  v22 := Tryz.zeroValue25
  i3 := by kernel_rfl }
open Go.RowKit Go.Lib Go.Sort in
theorem Tryz.slices_Compact_int (blk off cap : Nat) (zs : List Int) (w : World) (hH : Holds (Value.int .i64) w blk off zs.toArray) (hsz : zs.length ≤ 9223372036854775807) (hcap : zs.length ≤ cap) :
    Calls Tryz.prog 263 #[.slice (some ⟨blk, off, none⟩) zs.length cap] w fun e w' => e = .returned (.slice (some ⟨blk, off, none⟩) (Lib.compact zs).length cap) ∧ ∃ q, w' = putRow (Value.int .i64) (Sort.ahead w q) blk off (Lib.compact zs ++ List.replicate (zs.length - (Lib.compact zs).length) 0).toArray := Any.slices_Compact_int Tryz.laysNm220 blk off cap zs w hH hsz hcap
open Go.RowKit Go.Lib Go.Sort in
theorem Tryz.slices_Compact_int_empty (a : Option Addr) (cap : Nat) (w : World) :
    Calls Tryz.prog 263 #[.slice a 0 cap] w fun e w' => e = .returned (.slice a 0 cap) ∧ w' = w := Any.slices_Compact_int_empty Tryz.laysNm220 a cap w
def Tryz.lays194_ren : Go.Shelf.Ren := ⟨fun | 194 => 289 | n => n, fun | 31 => 26 | 9 => 9 | 3 => 3 | 4 => 4 | 0 => 0 | n => n, fun | n => n⟩
theorem Tryz.lays194 : Go.Proofs.Lays.n194 Tryz.prog Tryz.lays194_ren := {
  mixed := by kernel_rfl
  f194 := Tryz.func289.trans (congrArg some (by kernel_rfl))
  t0 := Tryz.underlying0
  a0 := Tryz.isAgg0
  z0 := Tryz.sizeOf0
  v0 := Tryz.zeroValue0
  t3 := Tryz.underlying3
  a3 := Tryz.isAgg3
  z3 := Tryz.sizeOf3
  v3 := Tryz.zeroValue3
  t4 := Tryz.underlying4
  a4 := Tryz.isAgg4
  z4 := Tryz.sizeOf4
  v4 := Tryz.zeroValue4
  t9 := Tryz.underlying9
  a9 := Tryz.isAgg9
  z9 := Tryz.sizeOf9
  v9 := Tryz.zeroValue9
  t31 := Tryz.underlying26
  a31 := Tryz.isAgg26
  z31 := Tryz.sizeOf26
  v31 := Tryz.zeroValue26 }
open Go.RowKit Go.Lib Go.Sort in
theorem Tryz.slices_Compact_string (blk off cap : Nat) (zs : List (List UInt8)) (w : World) (hH : Holds encStr w blk off zs.toArray) (hsz : zs.length ≤ 9223372036854775807) (hcap : zs.length ≤ cap) :
    Calls Tryz.prog 289 #[.slice (some ⟨blk, off, none⟩) zs.length cap] w fun e w' => e = .returned (.slice (some ⟨blk, off, none⟩) (Lib.compact zs).length cap) ∧ ∃ q, w' = putRow encStr (Sort.ahead w q) blk off (Lib.compact zs ++ List.replicate (zs.length - (Lib.compact zs).length) []).toArray := Any.slices_Compact_string Tryz.lays194 blk off cap zs w hH hsz hcap
open Go.RowKit Go.Lib Go.Sort in
theorem Tryz.slices_Compact_string_empty (a : Option Addr) (cap : Nat) (w : World) :
    Calls Tryz.prog 289 #[.slice a 0 cap] w fun e w' => e = .returned (.slice a 0 cap) ∧ w' = w := Any.slices_Compact_string_empty Tryz.lays194 a cap w
open Go.RowKit Go.Sort in
theorem Tryz.slices_Sort_string_none (p : Option Addr) (cap : Nat) (w : World) :
    Calls Tryz.prog 288 #[.slice p 0 cap] w fun e w' => e = .returned (.tuple #[]) ∧ w' = w := Any.slices_Sort_string_none Tryz.lays190 p cap w
open Go.RowKit Go.Sort in
theorem Tryz.slices_Sort_int_none (p : Option Addr) (cap : Nat) (w : World) :
    Calls Tryz.prog 262 #[.slice p 0 cap] w fun e w' => e = .returned (.tuple #[]) ∧ w' = w := Any.slices_Sort_int_none Tryz.lays189 p cap w
end Go.Proofs
namespace Go.Proofs.YtacafmejcdgboaaGreatDoor
open Go.RowKit
set_option linter.unusedVariables false
set_option maxRecDepth 100000
set_option maxHeartbeats 4000000
attribute [local irreducible] ar Der At
theorem nP (l:List ByteArray) (hl:l.length≤1000):FnD Tryz.prog 152 [DS l] (.row 1 9 (l.map .s)):=by
 refine ah Tryz.func152 (fun hw W0=>?_)
 refine kgo ?_
 refine I6 (fun h=>?_) ?_
 ·rw [h]
  refine kgo ?_
  refine pz 2 20001 9 ?_
  exact pt
 ·refine kgo ?_
  exact pt
theorem kl (l:List Int) (hl:l.length≤1000):FnD Tryz.prog 151 [DI l] (.row 1 3 (l.map .i)):=by
 refine ah Tryz.func151 (fun hw W0=>?_)
 refine kgo ?_
 refine I6 (fun h=>?_) ?_
 ·rw [h]
  refine kgo ?_
  refine pz 2 20001 3 ?_
  exact pt
 ·refine kgo ?_
  exact pt
theorem Dt (l:List Wr) (hl:l.length≤1000):FnD Tryz.prog 153 [.l 2 (l.map Wr.D)] (.row 2 153 (l.map Wr.D)):=by
 refine ah Tryz.func153 (fun hw W0=>?_)
 refine kgo ?_
 refine I6 (fun h=>?_) ?_
 ·rw [h]
  refine kgo ?_
  refine pz 2 20001 153 ?_
  exact pt
 ·refine kgo ?_
  exact pt
theorem i8 {α:Type} [Inhabited α] [DecidableEq α] (R:α→α→Prop) (tr:∀x y z,R x y→R y z→R x z) (d:Array α) (hs:∀i j,i<j→j<d.size→R d[i]! d[j]!∨d[i]! = d[j]!):∀m,m≤d.size→(Lib.compactUpTo d m).Pairwise R∧(∀z,z∈Lib.compactUpTo d m↔∃j,j<m∧d[j]! = z):=by
 intro m
 induction m with
 | zero=>intro _;exact ⟨by simp [Lib.compactUpTo],fun z=>by simp [Lib.compactUpTo]⟩
 | succ m ih=>
  intro hm
  obtain ⟨h1,h2⟩:=ih (by omega)
  rw [Lib.compactUpTo_succ]
  by_cases hk:Lib.keeps d m=true
  ·rw [if_pos hk]
   refine ⟨List.pairwise_append.2 ⟨h1,List.pairwise_singleton _ _,fun x hx y hy=>?_⟩,fun z=>?_⟩
   ·rw [List.mem_singleton] at hy
    subst hy
    obtain ⟨j,hj,rfl⟩:=(h2 x).1 hx
    have hne:d[m - 1]!≠d[m]!:=fun e=>by
     rw [Lib.keeps_neg (by omega) e.symm] at hk;cases hk
    have h3:=(hs (m - 1) m (by omega) (by omega)).resolve_right hne
    by_cases hjm:j=m - 1
    ·rw [hjm];exact h3
    ·rcases hs j (m - 1) (by omega) (by omega) with h4|h4
     ·exact tr _ _ _ h4 h3
     ·rw [h4];exact h3
   ·rw [List.mem_append,List.mem_singleton,h2]
    constructor
    ·rintro (⟨j,hj,e⟩|e)
     ·exact ⟨j,by omega,e⟩
     ·exact ⟨m,by omega,e.symm⟩
    ·rintro ⟨j,hj,e⟩
     by_cases hjm:j=m
     ·subst hjm;exact .inr e.symm
     ·exact .inl ⟨j,by omega,e⟩
  ·rw [if_neg hk,List.append_nil]
   refine ⟨h1,fun z=>(h2 z).trans ⟨fun ⟨j,hj,e⟩=>⟨j,by omega,e⟩,fun ⟨j,hj,e⟩=>?_⟩⟩
   by_cases hjm:j=m
   ·subst hjm
    have h0:0<j:=by
     rcases Nat.eq_zero_or_pos j with h|h
     ·subst h;exact absurd (Lib.keeps_lt_one d 0 (by omega)) hk
     ·exact h
    have heq:d[j]! = d[j - 1]!:=Classical.byContradiction fun hne=>hk (Lib.keeps_pos hne)
    exact ⟨j - 1,by omega,by rw [← heq];exact e⟩
   ·exact ⟨j,by omega,e⟩
theorem om {α:Type} [Inhabited α] [DecidableEq α] (R:α→α→Prop) (tr:∀x y z,R x y→R y z→R x z) (l:List α) (hs:l.Pairwise fun x y=>R x y∨x=y):(Lib.compact l).Pairwise R∧∀z,z∈Lib.compact l↔z∈l:=by
 have h:=i8 R tr l.toArray (fun i j hij hj=>by
  have hj':j<l.length:=by simpa using hj
  have:=(List.pairwise_iff_getElem.1 hs) i j (by omega) hj' hij
  simpa [show i<l.length by omega,hj'] using this) l.length (by simp)
 refine ⟨h.1,fun z=>(h.2 z).trans ⟨fun ⟨j,hj,e⟩=>?_,fun hz=>?_⟩⟩
 ·rw [← e];simp [hj]
 ·obtain ⟨j,hj,rfl⟩:=List.mem_iff_getElem.1 hz
  exact ⟨j,hj,by simp [hj]⟩
def H8 (l:List Int):List Int:=l.mergeSort fun x y=>decide (x≤y)
theorem Fc (l:List Int) (hl:l.length≤1000000):FnS Tryz.prog 262 1 3 (l.map .i) [] ((H8 l).map .i):=
 EC EF (bS Tryz.func262) (fun y hy=>(List.mem_mergeSort).1 hy) (List.length_mergeSort _) (fun p cap w=>Tryz.slices_Sort_int_none p cap w) (fun g cap w hH hg=>Tryz.slices_Sort_int g 0 cap l w hH hg (by omega))
theorem xy (l:List Int):FnC Tryz.prog 263 1 3 (l.map .i) [] ((Lib.compact l).map .i):=
 Es EF (us:=List.replicate (l.length - (Lib.compact l).length) 0) (bS Tryz.func263) (fun y hy=>by
  obtain ⟨j,hj,e⟩:=(i8 (fun _ _=>True) (fun _ _ _ _ _=>trivial) l.toArray (fun _ _ _ _=>.inl trivial) l.length (by simp)).2 y |>.1 hy
  rw [← e];simp [hj]) (by rw [List.length_append,List.length_replicate];have:=Lib.compact_length_le l;omega) (fun p cap w=>Tryz.slices_Compact_int_empty p cap w) (fun g cap w hH hc hm=>Tryz.slices_Compact_int g 0 cap l w hH (by unfold maxLen at hm;omega) hc)
abbrev toU (b:ByteArray):List UInt8:=b.data.toList
abbrev ofU (l:List UInt8):ByteArray:=⟨l.toArray⟩
theorem uM (b:ByteArray):ofU (toU b)=b:=by cases b;simp [ofU,toU]
theorem JH (l:List ByteArray):(l.map toU).map (fun x:List UInt8=>D.s ⟨x.toArray⟩)=l.map D.s:=by
 rw [List.map_map]
 exact List.map_congr_left fun b _=>congrArg D.s (uM b)
theorem I9 (l:List (List UInt8)):l.map (fun x:List UInt8=>D.s ⟨x.toArray⟩)=(l.map ofU).map D.s:=by rw [List.map_map];rfl
def Id (l:List (List UInt8)):List (List UInt8):=l.mergeSort fun x y=>decide (x≤y)
theorem Ga (l:List ByteArray) (hl:l.length≤1000000):FnS Tryz.prog 288 1 9 (l.map .s) [] ((Id (l.map toU)).map fun x:List UInt8=>D.s ⟨x.toArray⟩):=by
 rw [← JH l]
 exact EC Em (bS Tryz.func288) (fun y hy=>(List.mem_mergeSort).1 hy) (List.length_mergeSort _) (fun p cap w=>Tryz.slices_Sort_string_none p cap w) (fun g cap w hH hg=>Tryz.slices_Sort_string g 0 cap (l.map toU) w hH hg (by rw [List.length_map];omega))
theorem xN (l:List (List UInt8)):FnC Tryz.prog 289 1 9 (l.map fun x:List UInt8=>D.s ⟨x.toArray⟩) [] ((Lib.compact l).map fun x:List UInt8=>D.s ⟨x.toArray⟩):=
 Es Em (us:=List.replicate (l.length - (Lib.compact l).length) []) (bS Tryz.func289) (fun y hy=>by
  obtain ⟨j,hj,e⟩:=(i8 (fun _ _=>True) (fun _ _ _ _ _=>trivial) l.toArray (fun _ _ _ _=>.inl trivial) l.length (by simp)).2 y |>.1 hy
  rw [← e];simp [hj]) (by rw [List.length_append,List.length_replicate];have:=Lib.compact_length_le l;omega) (fun p cap w=>Tryz.slices_Compact_string_empty p cap w) (fun g cap w hH hc hm=>Tryz.slices_Compact_string g 0 cap l w hH (by unfold maxLen at hm;omega) hc)
end Go.Proofs.YtacafmejcdgboaaGreatDoor
namespace Go.Proofs.YtacafmejcdgboaaGreatDoor
open Go.RowKit
set_option linter.unusedVariables false
set_option maxRecDepth 100000
set_option maxHeartbeats 4000000
set_option linter.unusedSimpArgs false
attribute [local irreducible] ar Der At
theorem yu {x y:List UInt8} (h:x≤y):Op.bytesLess x y=true∨x=y:=by
 by_cases e:x=y
 ·exact .inr e
 ·refine .inl ?_
  have h1:=NLt.total (a:=ofU x) (b:=ofU y) (fun he=>e (by have:=congrArg toU he;simpa [toU,ofU] using this))
  unfold NLt cQ at h1
  rw [ByteArray.toList_eq,ByteArray.toList_eq] at h1
  simp only [ofU] at h1
  rcases h1 with h1|h1
  ·simpa using h1
  ·rw [_root_.Go.Proofs.bytesLess_eq] at h1
   exact absurd (of_decide_eq_true h1) h
theorem Ci (l:List ByteArray):(Lib.compact (Id (l.map toU))).map ofU=cH l:=by
 have hs:(Id (l.map toU)).Pairwise fun x y=>Op.bytesLess x y=true∨x=y:=by
  have:=List.pairwise_mergeSort (le:=fun x y:List UInt8=>decide (x≤y)) (fun a b c h1 h2=>by
   simp only [decide_eq_true_eq] at h1 h2 ⊢
   exact List.le_trans h1 h2) (fun a b=>by
   simp only [Bool.or_eq_true,decide_eq_true_eq]
   exact List.le_total a b) (l.map toU)
  exact this.imp fun {x y} h=>yu (of_decide_eq_true h)
 obtain ⟨h1,h2⟩:=om (fun x y=>Op.bytesLess x y=true) (fun x y z=>mC x y z) _ hs
 refine (wU (List.pairwise_map.2 (h1.imp fun {x y} h=>?_)) (fun z=>?_)).symm
 ·show cQ _ _=true
  unfold cQ
  rw [ByteArray.toList_eq,ByteArray.toList_eq]
  simpa [ofU] using h
 ·rw [List.mem_map]
  constructor
  ·rintro ⟨x,hx,rfl⟩
   rw [h2] at hx
   obtain ⟨b,hb,rfl⟩:=List.mem_map.1 (List.mem_mergeSort.1 hx)
   rw [uM];exact hb
  ·intro hz
   exact ⟨toU z,(h2 _).2 (List.mem_mergeSort.2 (List.mem_map.2 ⟨z,hz,rfl⟩)),uM z⟩
theorem ld (l:List ByteArray) (hl:l.length≤1000):FnD Tryz.prog 264 [DS l] (.d (DS (cH l))):=by
 have f1:=nP l hl
 have f2:=Ga l (by omega)
 have f3:=xN (Id (l.map toU))
 have hE:(Lib.compact (Id (l.map toU))).map (fun x:List UInt8=>D.s ⟨x.toArray⟩)=(cH l).map D.s:=by rw [← Ci,I9]
 rw [hE] at f3
 refine ah Tryz.func264 (fun hw W0=>?_)
 repeat (first|(refine cy ?_;first|refine aV ?_|refine bY ?_|refine aY ?_|refine aZ ?_|refine aS ?_|refine bg ?_|refine bi ?_|refine ay ?_|refine be ?_)|(refine fo ?_;first|refine bQ ?_|refine eZ ?_|refine cr ?_|refine b8 ?_)|(refine fa ?_;first|refine dm (fun _=>?_)|refine b9 ?_|refine cm ?_|refine bG ?_|refine cw ?_|refine ck ?_)|(refine fh ?_;first|refine cg ?_|refine eB ?_|refine bT ?_|refine bI ?_|refine cq ?_|refine bV ?_|refine bZ ?_)|(refine fe ?_;first|refine fl ?_|refine eS ?_|refine cd ?_|refine bP ?_|refine fq ?_|refine bl ?_|refine bo ?_)|(refine cu ?_;first|refine aX ?_|refine ch ?_)|(refine ff ?_;first|refine fF (d:=2) ?_|refine cj ?_|refine ct ?_|refine ft ?_)|(refine cf ?_;first|refine ca ?_|refine bd ?_|refine aQ ?_|refine ba ?_|refine aU ?_|refine bh ?_)|(refine fc ?_;first|refine b7 ?_|refine eY ?_|refine bj ?_|refine aR ?_|refine bm ?_)|(refine aI ?_;first|refine au _ ?_|refine bf ?_|refine aA ?_|refine av ?_|refine ax ?_)|(refine fu ?_;first|refine cb ?_|refine bH ?_|refine bX ?_)|(refine gOp ?_;first|refine fd ?_|refine fm ?_|refine bc ?_|refine fp ?_|refine fj ?_|refine bU ?_|refine aT ?_|refine co ?_|refine fw ?_|refine bM ?_|refine b6 ?_|refine bk ?_|refine az ?_|refine bW ?_|refine sNo ?_|refine dO ?_|refine aw ?_)|refine dZ ?_|refine cN ?_|refine fB ?_|refine bp ?_|refine cz ?_|refine bB ?_|refine fC ?_|refine fI ?_|refine fx ?_|refine df ?_|refine cC ?_|refine aN ?_|refine aB ?_|refine bq ?_|refine ci ?_|refine bC ?_|refine aBlkX ?_|refine cA ?_)
 exact aq
def gq (a:Big) (ks:List Int):List Int:=ks.flatMap fun k=>(dR a k).links
theorem uG (a:Big) (ks:List Int) (k:Int):gq a (ks++[k])=gq a ks++(dR a k).links:=by unfold gq;rw [List.flatMap_append];simp
theorem sW {sig:List Ctl} {b:Big} (h:aF sig b=true) (i:Nat) (hi:i<b.nodes.length):(b.nodes[i]).links.length≤3:=by
 obtain ⟨c0,c1,_,c3,_⟩:=eW h i hi
 have:=sC (eU (ee h).1).1 _ c0 c1
 omega
theorem gZ {a:Big} {ns:List Int} {k:Int} (h:k∈bz a ns):∃q:Nat,k=q∧q<a.nodes.length∧mw a ns q=true:=by
 obtain ⟨q,h1,h2,h3⟩:=bw.1 h
 exact ⟨q,h3,h1,h2⟩
theorem m7 {sig:List Ctl} {a:Big} (h:aF sig a=true):∀ks:List Int,(∀k∈ks,∃q:Nat,k=q∧q<a.nodes.length)→(gq a ks).length≤3 * ks.length:=by
 intro ks
 induction ks with
 | nil=>intro _;exact Nat.le_refl _
 | cons k ks ih=>
  intro hk
  obtain ⟨q,rfl,hq⟩:=hk k (by simp)
  have h1:=ih (fun x hx=>hk x (by simp [hx]))
  have h2:=sW h q hq
  show ((dR a (q:Int)).links++gq a ks).length≤_
  rw [List.length_append,aD a q hq,List.length_cons];omega
theorem tm {sig:List Ctl} {a:Big} (h:aF sig a=true) (ns:List Int):Lib.compact (H8 (gq a (bz a ns)))=ak a ns:=by
 have hs:(H8 (gq a (bz a ns))).Pairwise fun x y:Int=>x<y∨x=y:=by
  have:=List.pairwise_mergeSort (le:=fun x y:Int=>decide (x≤y)) (fun a b c h1 h2=>by simp only [decide_eq_true_eq] at h1 h2 ⊢;omega) (fun a b=>by simp only [Bool.or_eq_true,decide_eq_true_eq];omega) (gq a (bz a ns))
  exact this.imp fun {x y} h=>by have:=of_decide_eq_true h;omega
 obtain ⟨h1,h2⟩:=om (fun x y:Int=>x<y) (fun x y z=>Int.lt_trans) _ hs
 refine Ao (lt:=fun x y:Int=>x<y) (fun x=>Int.lt_irrefl x) (fun x y z=>Int.lt_trans) _ _ h1 (hZ _ _) (fun z=>?_)
 rw [h2]
 constructor
 ·intro hz
  obtain ⟨k,hk,hl⟩:=List.mem_flatMap.1 (List.mem_mergeSort.1 hz)
  obtain ⟨q,rfl,hq,_⟩:=gZ hk
  rw [aD a q hq] at hl
  obtain ⟨l,rfl,hll⟩:=iE ((eW h q hq).2.2.2.2 _ hl)
  exact bw.2 ⟨l,hll,List.any_eq_true.2 ⟨_,hk,by rw [aD a q hq];exact cM.2 hl⟩,rfl⟩
 ·intro hz
  obtain ⟨l,hll,hp,rfl⟩:=bw.1 hz
  obtain ⟨k,hk,hl⟩:=List.any_eq_true.1 hp
  exact List.mem_mergeSort.2 (List.mem_flatMap.2 ⟨k,hk,cM.1 hl⟩)
theorem s5 {α:Type} [DecidableEq α] (xs ys:List α) (h:xs.Nodup) (hs:∀x∈xs,x∈ys):xs.length≤ys.length:=by
 induction xs generalizing ys with
 | nil=>exact Nat.zero_le _
 | cons x xs ih=>
  have hx:=hs x (by simp)
  rw [List.nodup_cons] at h
  have h2:=ih (ys.erase x) h.2 (fun y hy=>(List.mem_erase_of_ne (fun (e:y=x)=>h.1 (by rw [← e];exact hy))).2 (hs y (by simp [hy])))
  rw [List.length_erase_of_mem hx] at h2
  have:=List.length_pos_of_mem hx
  rw [List.length_cons];omega
theorem zp {sig:List Ctl} {r:Big} (h:aF sig r=true) (hs:bF r=true):ap r≤3 * r.nodes.length:=by
 let code:Nat→Nat:=fun l=>3 * ((aK r l).getD 0 (0,0)).1.toNat+((aK r l).getD 0 (0,0)).2.toNat
 have hc:∀l,l<ap r→∃i j:Nat,∃hi:i<r.nodes.length,∃hj:j<(r.nodes[i]).links.length,(r.nodes[i]).links[j]=(l:Int)∧code l=3 * i+j:=fun l hl=>by
  have h0:0<(aK r l).length:=List.length_pos_iff.2 (fW hs l hl)
  obtain ⟨i,j,hi,hj,e1,e2⟩:=ew.1 (List.getElem_mem h0)
  refine ⟨i,j,hi,hj,e1,?_⟩
  show 3 * ((aK r l).getD 0 (0,0)).1.toNat+((aK r l).getD 0 (0,0)).2.toNat=_
  rw [List.getD_eq_getElem?_getD,List.getElem?_eq_getElem h0,Option.getD_some,e2];rfl
 have hn:((List.range (ap r)).map code).Nodup:=by
  refine List.pairwise_map.2 (List.Pairwise.imp_of_mem (fun {x y} hx hy hne e=>hne ?_) List.nodup_range)
  obtain ⟨i,j,hi,hj,e1,e2⟩:=hc x (List.mem_range.1 hx)
  obtain ⟨i',j',hi',hj',e3,e4⟩:=hc y (List.mem_range.1 hy)
  have l1:=sW h i hi
  have l2:=sW h i' hi'
  have hii:i=i':=by omega
  subst hii
  have hjj:j=j':=by omega
  subst hjj
  omega
 have:=s5 _ (List.range (3 * r.nodes.length)) hn (fun x hx=>by
  obtain ⟨l,hl,rfl⟩:=List.mem_map.1 hx
  obtain ⟨i,j,hi,hj,e1,e2⟩:=hc l (List.mem_range.1 hl)
  have l1:=sW h i hi
  rw [e2];exact List.mem_range.2 (by omega))
 simpa using this
theorem xU {sig:List Ctl} {r a:Big} {ns:List Int} (hr:aF sig r=true) (hs:bF r=true) (ha:aF sig a=true) (him:ox r a ns):(ak a ns).length+r.outer.length≤24:=by
 have h1:=zp hr hs
 have hd:=aJ ha
 have hdr:=aJ hr
 have h2:(bz a ns).length+ns.length≤a.nodes.length:=by
  have hn:(bz a ns++ns).Nodup:=by
   refine List.nodup_append.2 ⟨iU (· < ·) (fun x=>Int.lt_irrefl x) (hZ _ _),List.nodup_iff_pairwise_ne.2 (List.pairwise_iff_getElem.2 fun i j hi hj hij e=>?_),fun x hx y hy e=>?_⟩
   ·have:=him.inj i j (by have:=him.len;omega) (by have:=him.len;omega) (by rw [cE _ i hi,cE _ j hj];exact e)
    omega
   ·obtain ⟨q,rfl,_,hp⟩:=gZ hx
    unfold mw at hp
    rw [← e] at hy
    rw [cM.2 hy] at hp
    simp at hp
  have:=s5 _ (Iy a.nodes.length) hn (fun x hx=>by
   unfold Iy
   rcases List.mem_append.1 hx with hx|hx
   ·obtain ⟨q,rfl,hq,_⟩:=gZ hx
    exact List.mem_map.2 ⟨q,List.mem_range.2 hq,rfl⟩
   ·obtain ⟨i,hi,rfl⟩:=List.mem_iff_getElem.1 hx
    obtain ⟨mm,hm,e,_⟩:=him.at' i (by have:=him.len;omega)
    rw [cE _ i hi] at e
    exact List.mem_map.2 ⟨mm,List.mem_range.2 hm,e.symm⟩)
  rw [List.length_append,DO] at this
  exact this
 have h3:=m7 ha (bz a ns) (fun k hk=>by obtain ⟨q,e,hq,_⟩:=gZ hk;exact ⟨q,e,hq⟩)
 have h4:(ak a ns).length≤(gq a (bz a ns)).length:=by
  rw [← tm ha ns]
  exact Nat.le_trans (Lib.compact_length_le _) (by unfold H8;rw [List.length_mergeSort];exact Nat.le_refl _)
 have h5:=him.len
 have h6:r.outer.length≤ap r:=by unfold ap;omega
 omega
theorem Gk:∀i:Fin 26,Utf8.encode (97+((i:Nat):Int))=⟨#[UInt8.ofNat (97+i)]⟩:=by decide
theorem tQ (a:Big) (ks:List Int):([]:List D)=(gq a (ks.take 0)).map D.i:=rfl
theorem s8 (o:List ByteArray):kY o 0 = []:=rfl
attribute [local irreducible] kY mU ak gq in
theorem mu {sig:List Ctl} {r a:Big} (m:Mat) (hbr:aF sig r=true) (hs:bF r=true) (hba:aF sig a=true) (him:ox r a m.nodes):FnD Tryz.prog 226 [r.D,a.D,m.D] (.tp [DI (ak a m.nodes),DS (bJ r.outer (ak a m.nodes).length),.b (decide (((ak a m.nodes).length:Int)+r.outer.length≤16))]):=by
 have few:=xU hbr hs hba him
 have hdr:=aJ hbr
 have da:=bu hba
 have hn8:=(aJ hba).2.1
 have f1:=jo m hba
 have hks:∀k∈bz a m.nodes,∃q:Nat,k=q∧q<a.nodes.length:=fun k hk=>by obtain ⟨q,e,hq,_⟩:=gZ hk;exact ⟨q,e,hq⟩
 have hkl:(bz a m.nodes).length≤a.nodes.length:=de _ _
 have hpe:=tm hba m.nodes
 have hlen:=m7 hba (bz a m.nodes) hks
 have f2:=Fc (gq a (bz a m.nodes)) (by omega)
 have f3:=xy (H8 (gq a (bz a m.nodes)))
 rw [hpe] at f3
 have hlks:∀i,i≤(bz a m.nodes).length→(gq a ((bz a m.nodes).take i)).length≤3 * i:=fun i hi=>by
  have:=m7 hba ((bz a m.nodes).take i) (fun k hk=>hks k (List.mem_of_mem_take hk))
  rw [List.length_take] at this;omega
 have hL0:=tQ a (bz a m.nodes)
 have hN0:([]:List D)=(kY r.outer 0).map D.s:=by rw [s8];rfl
 refine ah Tryz.func226 (fun hw W0=>?_)
 refine kgo ?_
 refine ai [3,4,10,19,20] (fun i:Nat=>i≤(bz a m.nodes).length) (fun i=>(bz a m.nodes).length - i) (fun i=>[(9,.sy (.k 20001)),(20001,.tk (.row 1 3 ((gq a ((bz a m.nodes).take i)).map .i))),(21,.sy (.d (.i i)))]) 0 (Nat.zero_le _) (fun i hi=>?_)
 refine kgo ?_
 refine aL (fun h=>?_) (fun h=>?_)
 ·have hlt:i<(bz a m.nodes).length:=by omega
  obtain ⟨q,hq,hqa⟩:=hks _ (List.getElem_mem hlt)
  have h3:=sW hba q hqa
  have hl:=hlks i hi
  have hs:(gq a ((bz a m.nodes).take (i+1))).map D.i=(gq a ((bz a m.nodes).take i)++(a.nodes[q]).links).map D.i:=by rw [List.take_succ_eq_append_getElem hlt,uG,hq,aD a q hqa]
  refine kgo ?_
  refine dm (n:=q) (fun _=>?_) rfl rfl (congrArg some hq)
  refine kgo ?_
  exact af (i+1) hlt (by omega)
 rw [show (bz a m.nodes).take i=bz a m.nodes from List.take_of_length_le (by omega)]
 refine kgo ?_
 refine ai [3,9] (fun j:Nat=>j≤24∧(kY r.outer j).length≤(ak a m.nodes).length) (fun j=>24 - j) (fun j=>[(10,.sy (.k 20002)),(20002,.tk (.row 1 9 ((kY r.outer j).map .s))),(13,.sy (.v (.int .i32 (97+(j:Int)))))]) 0 ⟨Nat.zero_le _,by rw [s8];exact Nat.zero_le _⟩ (fun j hj=>?_)
 refine kgo ?_
 refine aL (fun h=>?_) (fun h=>?_)
 ·simp only [List.length_map] at h
  have hfew:=zn r.outer j (by omega)
  have hra:Utf8.encode (97+(j:Int))=⟨#[UInt8.ofNat (97+j)]⟩:=Gk ⟨j,by omega⟩
  have hcat:(⟨#[122]⟩:ByteArray).size+(⟨#[UInt8.ofNat (97+j)]⟩:ByteArray).size≤1000000:=by show 1+1≤1000000;omega
  have hj26:j<26:=by omega
  have f4:=oF r.outer (mU j)
  have hz:=tn ⟨j,hj26⟩
  dsimp only at hz
  rw [← hz] at f4
  have hfr:(!rv r.outer ((⟨#[122]⟩:ByteArray) ++ ⟨#[UInt8.ofNat (97+j)]⟩))=lm r.outer j:=by rw [hz];unfold rv lm;rw [qR]
  have hsu:=oR r.outer j
  refine kgo ?_
  refine IQ hra (by show 1≤maxLen;decide) ?_
  refine kgo ?_
  refine cIf (fun h2=>?_) (fun h2=>?_)
  ·rw [hfr] at h2
   rw [if_pos h2] at hsu
   have hs:(kY r.outer (j+1)).map D.s=(kY r.outer j).map D.s++[.s ((⟨#[122]⟩:ByteArray) ++ ⟨#[UInt8.ofNat (97+j)]⟩)]:=by rw [hsu,List.map_append,hz];rfl
   have hlen2:(kY r.outer (j+1)).length=(kY r.outer j).length+1:=by rw [hsu,List.length_append];rfl
   refine kgo ?_
   rw [show 97+(j:Int)+1=97+((j+1:Nat):Int) by omega]
   exact af (j+1) ⟨by omega,by omega⟩ (by omega) (hs:=⟨⟨rfl,rfl⟩,⟨jY rfl hs.symm,rfl⟩,⟨rfl,rfl⟩,by repeat (first|exact trivial|refine ⟨⟨rfl,rfl⟩,?_⟩)⟩)
  ·rw [hfr] at h2
   rw [if_neg (by rw [h2];exact Bool.false_ne_true)] at hsu
   have hs:(kY r.outer (j+1)).map D.s=(kY r.outer j).map D.s:=by rw [hsu]
   refine kgo ?_
   rw [show 97+(j:Int)+1=97+((j+1:Nat):Int) by omega]
   exact af (j+1) ⟨by omega,by rw [hsu];exact hj.2⟩ (by omega) (hs:=⟨⟨rfl,rfl⟩,⟨jY rfl hs.symm,rfl⟩,⟨rfl,rfl⟩,by repeat (first|exact trivial|refine ⟨⟨rfl,rfl⟩,?_⟩)⟩)
 simp only [List.length_map] at h
 have hle:(kY r.outer j).length=(ak a m.nodes).length:=by omega
 rw [← hle,tz r.outer j (by omega)]
 rw [hle]
 repeat (first|refine cFz 9 ?_|refine cFz 10 ?_|(refine cy ?_;first|refine aV ?_|refine bY ?_|refine aY ?_|refine aZ ?_|refine aS ?_|refine bg ?_|refine bi ?_|refine ay ?_|refine be ?_)|(refine fo ?_;first|refine bQ ?_|refine eZ ?_|refine cr ?_|refine b8 ?_)|(refine fa ?_;first|refine dm (fun _=>?_)|refine b9 ?_|refine cm ?_|refine bG ?_|refine cw ?_|refine ck ?_)|(refine fh ?_;first|refine cg ?_|refine eB ?_|refine bT ?_|refine bI ?_|refine cq ?_|refine bV ?_|refine bZ ?_)|(refine fe ?_;first|refine fl ?_|refine eS ?_|refine cd ?_|refine bP ?_|refine fq ?_|refine bl ?_|refine bo ?_)|(refine cu ?_;first|refine aX ?_|refine ch ?_)|(refine ff ?_;first|refine cj ?_|refine ct ?_|refine ft ?_)|(refine cf ?_;first|refine ca ?_|refine bd ?_|refine aQ ?_|refine ba ?_|refine aU ?_|refine bh ?_)|(refine fc ?_;first|refine b7 ?_|refine eY ?_|refine bj ?_|refine aR ?_|refine bm ?_)|(refine aI ?_;first|refine au _ ?_|refine bf ?_|refine aA ?_|refine av ?_|refine ax ?_)|(refine fu ?_;first|refine cb ?_|refine bH ?_|refine bX ?_)|(refine gOp ?_;first|refine fd ?_|refine fm ?_|refine bc ?_|refine fp ?_|refine fj ?_|refine bU ?_|refine aT ?_|refine co ?_|refine fw ?_|refine bM ?_|refine b6 ?_|refine bk ?_|refine az ?_|refine bW ?_|refine sNo ?_|refine dO ?_|refine aw ?_)|refine dZ ?_|refine cN ?_|refine fB ?_|refine bp ?_|refine cz ?_|refine bB ?_|refine fC ?_|refine fI ?_|refine fx ?_|refine df ?_|refine cC ?_|refine aN ?_|refine aB ?_|refine bq ?_|refine ci ?_|refine bC ?_|refine aBlkX ?_|refine cA ?_)
 exact iA
end Go.Proofs.YtacafmejcdgboaaGreatDoor
namespace Go.Proofs.YtacafmejcdgboaaGreatDoor
open Go.RowKit
set_option linter.unusedVariables false
set_option maxRecDepth 100000
set_option maxHeartbeats 4000000
attribute [local irreducible] ar Der At
abbrev B8 (b:Big):List Pt:=[.d (.i b.roots),.tk (.deep 3 151 (b.nodes.map Nd.D) []),.tk (.row 1 3 (b.sites.map .i)),.d (.i b.edges),.tk (.row 1 9 (b.outer.map .s)),.tk (.row 2 153 (b.inner.map Wr.D))]
theorem nr (b:Big) (hd:vz b) (hi:b.inner.length≤1000):FnO Tryz.prog 99 [b.D] [6] (B8 b):=by
 obtain ⟨hd1,hd2,hd3,hd4,hd5,hd6,hd7⟩:=hd
 have f1:=kl b.sites hd4
 have f2:=nP b.outer hd5
 have f3:=Dt b.inner hi
 refine cR Tryz.func99 (fun hw W0=>?_)
 refine kgo ?_
 refine I4 10003 1 20001 151 ?_
 refine ai [2,3,21,22,10010,10015,10018] (fun i:Nat=>i≤b.nodes.length) (fun i=>b.nodes.length - i) (fun i=>[(23,.sy (.d (.i i))),(10003,.tk (.bx [.d (.i b.roots),.k 20001,.k 10010,.d (.i b.edges),.k 10015,.k 10018])),(20001,.tk (.deep 3 151 ((b.nodes.take i).map Nd.D) []))]) 0 (Nat.zero_le _) (fun i hi=>?_)
 refine kgo ?_
 refine aL (fun h=>?_) (fun h=>?_)
 ·have hlt:i<b.nodes.length:=by omega
  have f4:=kl b.nodes[i].links (hd7 i hlt)
  have hs:(b.nodes.take (i+1)).map Nd.D=(b.nodes.take i).map Nd.D++[b.nodes[i].D]:=by rw [List.take_succ_eq_append_getElem hlt,List.map_append];rfl
  refine kgo ?_
  exact af (i+1) hlt (by omega) (hs:=⟨⟨rfl,rfl⟩,⟨rfl,rfl⟩,⟨z7 rfl hs.symm,rfl⟩,by repeat (first|exact trivial|refine ⟨⟨rfl,rfl⟩,?_⟩)⟩)
 rw [List.take_of_length_le (by omega)]
 refine kgo ?_
 exact gK (hp:=.cons (.d rfl) (.cons (.k rfl rfl) (.cons (.k rfl rfl) (.cons (.d rfl) (.cons (.k rfl rfl) (.cons (.k rfl rfl) .nil))))))
theorem dU (sig:List Ctl) (b:Big) (hl:b.inner.length≤1048576):FnD Tryz.prog 104 [.l 3 (sig.map Ctl.D),b.D] (.d (.b (aF sig b))):=⟨bS Tryz.func104,fun F w vs hv hF=>by
 obtain ⟨v1,t,rfl,h1,v2,t2,rfl,h2,h3⟩:=hv
 cases (show t2 = [] from h3)
 obtain ⟨cs,rfl,hb⟩:=sZ h2
 refine (ju _ _ _ _ _ _ _ _ _ (Aq.toV (by decide) h1) hb hl).mono ?_
 rintro e w' ⟨rfl,hX⟩
 exact ⟨_,rfl,hX,rfl⟩⟩
theorem zT (sig:List Ctl) (b:Big) (hl:b.inner.length≤1048576):FnD Tryz.prog 49 [.l 3 (sig.map Ctl.D),b.D] (.d (.b (fS sig b))):=⟨bS Tryz.func49,fun F w vs hv hF=>by
 obtain ⟨v1,t,rfl,h1,v2,t2,rfl,h2,h3⟩:=hv
 cases (show t2 = [] from h3)
 obtain ⟨cs,rfl,hb⟩:=sZ h2
 refine (pB _ _ _ _ _ _ _ _ _ (Aq.toV (by decide) h1) hb hl).mono ?_
 rintro e w' ⟨rfl,hX⟩
 exact ⟨_,rfl,hX,rfl⟩⟩
def yZ (p:Bool) (b:Big):Big:=if p then b else fN
theorem oc (sig:List Ctl) (b:Big) (hl:b.inner.length≤1000):FnO Tryz.prog 164 [.l 3 (sig.map Ctl.D),b.D] [6,0] (B8 (yZ (aF sig b) b)++[.d (.b (aF sig b))]):=by
 have f1:=dU sig b (by omega)
 refine cR Tryz.func164 (fun hw W0=>?_)
 cases hg:aF sig b
 ·rw [hg] at f1
  refine kgo ?_
  exact gK (hp:=.cons (.d rfl) (.cons .m (.cons .n (.cons (.d rfl) (.cons .n (.cons .n (.cons (.d rfl) .nil)))))))
 ·have f2:=nr b (bu hg) hl
  rw [hg] at f1
  refine kgo ?_
  exact gK (hp:=.cons (.d rfl) (.cons (.k rfl rfl) (.cons (.k rfl rfl) (.cons (.d rfl) (.cons (.k rfl rfl) (.cons (.k rfl rfl) (.cons (.d rfl) .nil)))))))
end Go.Proofs.YtacafmejcdgboaaGreatDoor
namespace Go.Proofs.YtacafmejcdgboaaGreatDoor
open Go.RowKit
set_option linter.unusedVariables false
set_option maxRecDepth 100000
set_option maxHeartbeats 4000000
attribute [local irreducible] ar Der At
theorem FnD.toL {P:Program} {f z e:Nat} {xs ds:List D} (h:FnD P f xs (.row z e ds)):FnD P f xs (.d (.l z ds)):=⟨h.enter,fun F w vs hv hF=>(h.calls F w vs hv hF).mono (by
 rintro e' w' ⟨v,rfl,hX,hr⟩
 refine ⟨v,rfl,hX,?_⟩
 rcases hr with ⟨hd,a0,hv⟩|⟨cells,h2,h3⟩
 ·subst hd
  exact ⟨a0,0,by rw [hv];rfl,Nat.le_refl _,by decide,fun _=>rfl,.inl rfl⟩
 have h1:(Tk.row z e ds).ok (Cx.of (fun b=>fresh w w' F b∧v.ownBlock≠some b)) w' v (fun b=>v.ownBlock=some b):=.inr ⟨cells,⟨h2.1,h2.2.imp _root_.id (fun ⟨g,cap,cur,q1,_,q2⟩=>⟨g,cap,cur,q1,Nat.zero_le _,q2⟩)⟩,fun g hg=>hg,h3⟩
 refine DV.keep (fun b hb=>?_) (fun _ _ _=>rfl) (cP h1)
 rcases hb with hb|hb
 ·exact hb.1
 ·rcases h2.2 with ⟨q3,_⟩|⟨g,cap,cur,q1,q2,q3,_⟩
  ·rw [q3] at hb;cases hb
  ·rw [q1] at hb;cases hb
   exact .inr ⟨q2,(Array.getElem?_eq_some_iff.1 q3).1⟩)⟩
def Pt.dat:Pt→D
 | .d r=>r
 | .tk (.row z _ ds)=>.l z ds
 | .tk (.deep z _ ds _)=>.l z ds
 | .tk (.own r _ _)=>r
 | .tk (.grw z _ ds)=>.l z ds
 | .tk _=>.i 0
theorem Pt.frz {w w':World} {F:BS} {T:Nat→BS} {p:Pt} {i:Nat} {u:Value} (hT:∀i b,T i b→w.heap.size≤b∧b<w'.heap.size) (h:p.ok w' (fun b=>fresh w w' F b∧∀j,¬T j b) (T i) u):DV w' (fresh w w' F) p.dat u:=by
 cases p with
 | d r=>exact DV.keep (fun b hb=>hb.1) (fun _ _ _=>rfl) h.2
 | tk t=>
  obtain ⟨hb,h⟩:=h
  cases t with
  | bx cs=>cases hb
  | mp m=>cases hb
  | abs p tag=>cases hb
  | bxs cs=>cases hb
  | bxt cs u=>cases hb
  | grw z e ds=>
   rcases h with ⟨hd,a0,hv⟩|⟨cells,U,h2,h3,h4,_,h6⟩
   ·subst hd
    exact ⟨a0,0,by rw [hv];rfl,Nat.le_refl _,by decide,fun _=>rfl,.inl rfl⟩
   ·have h1:(Tk.row z e ds).ok (Cx.of (T i)) w' u (T i):=.inr ⟨cells,h2,fun g hg=>(h3 g hg).1,fun j hj=>by
     obtain ⟨cs,q1,q2,q3⟩:=h6 j hj
     exact ⟨cs,q1,Rp.keep (fun b hb=>(h4 j b hb).1) (fun _ _ _=>rfl) _ _ (Ow.rp _ _ _ q2),q3⟩⟩
    exact DV.keep (fun b hb=>.inr (hT i b (hb.elim _root_.id _root_.id))) (fun _ _ _=>rfl) (cP h1)
  | own d pin tag=>
   have h1:=h.1
   cases d with
   | l z xs=>exact DV.keep (fun b hb=>.inr (hT i b hb)) (fun _ _ _=>rfl) (show DV _ _ (.l z xs) _ from Ow.rp _ _ _ h1)
   | _=>cases hb
  | row z e ds=>exact DV.keep (fun b hb=>hb.elim (fun h=>h.1) (fun h=>.inr (hT i b h))) (fun _ _ _=>rfl) (cP h)
  | deep z e ds ps=>
   rcases h with ⟨hd,_,a0,hv⟩|⟨cells,U,h2,h3,h4,_,h6,_⟩
   ·subst hd
    exact ⟨a0,0,by rw [hv];rfl,Nat.le_refl _,by decide,fun _=>rfl,.inl rfl⟩
   ·have h1:(Tk.row z e ds).ok (Cx.of (T i)) w' u (T i):=.inr ⟨cells,h2,fun g hg=>(h3 g hg).1,fun j hj=>by
     obtain ⟨cs,q1,q2,q3⟩:=h6 j hj
     exact ⟨cs,q1,Rp.keep (fun b hb=>(h4 j b hb).1) (fun _ _ _=>rfl) _ _ q2,q3⟩⟩
    exact DV.keep (fun b hb=>.inr (hT i b (hb.elim _root_.id _root_.id))) (fun _ _ _=>rfl) (cP h1)
theorem te {w w':World} {F:BS} {T:Nat→BS} (hT:∀i b,T i b→w.heap.size≤b∧b<w'.heap.size):∀(ps:List Pt) (us:List Value) (m:Nat),us.length=ps.length→(∀(i:Nat) (p:Pt),ps[i]? = some p→∃u,us[i]? = some u∧p.ok w' (fun b=>fresh w w' F b∧∀j,¬T j b) (T (m+i)) u)→DVs w' (fresh w w' F) (ps.map Pt.dat) us:=by
 intro ps
 induction ps with
 | nil=>intro us m hl _;exact List.eq_nil_of_length_eq_zero hl
 | cons p ps ih=>
  intro us m hl h
  cases us with
  | nil=>simp at hl
  | cons u us=>
   obtain ⟨u',e1,h1⟩:=h 0 p rfl
   simp at e1
   subst e1
   exact ⟨_,_,rfl,Pt.frz hT h1,ih us (m+1) (by simpa using hl) (fun i p hp=>by
    have:=h (i+1) p (by simpa using hp)
    rw [show m+(i+1)=m+1+i by omega] at this
    simpa using this)⟩
theorem FnO.toD {P:Program} {f n:Nat} {xs:List D} {ps:List Pt} (h:FnO P f xs [n+1] ps) (hn:ps.length=n+1:=by rfl) (ht:((ps.map Pt.dat).all fun r=>!isT r)=true:=by rfl):FnD P f xs (.d (.t (ps.map Pt.dat))):=⟨h.enter,fun F w vs hv hF=>(h.calls F w vs hv hF).mono (by
 rintro e' w' ⟨us,T,rfl,hX,hl,hT,_,hel⟩
 have hd:=te (F:=F) hT ps us 0 hl (fun i p hp=>by rw [Nat.zero_add];exact hel i p hp)
 refine ⟨_,rfl,hX,?_⟩
 show DV w' (fresh w w' F) (.t _) (Fo (qk [n+1] us))
 have:qk [n+1] us = [.agg us.toArray]:=by
  unfold qk qk
  rw [List.take_of_length_le (by omega)]
 rw [this]
 exact ⟨us,rfl,vw _ _ ht hd⟩)⟩
theorem CM {w:World} {S:BS}:∀(n:Nat) (ds:List D) (vs:List Value),DVs w S ds vs→DVs w S (ds.take n) (vs.take n)∧DVs w S (ds.drop n) (vs.drop n):=by
 intro n
 induction n with
 | zero=>intro ds vs h;simpa [DVs] using h
 | succ n ih=>
  intro ds vs h
  cases ds with
  | nil=>rw [show vs = [] from h];exact ⟨rfl,rfl⟩
  | cons r rs=>
   obtain ⟨v,t,rfl,h1,h2⟩:=h
   obtain ⟨h3,h4⟩:=ih rs t h2
   exact ⟨⟨v,_,rfl,h1,h3⟩,h4⟩
theorem FnO.toT {P:Program} {f n:Nat} {xs:List D} {ps:List Pt} {r:D} (h:FnO P f xs [n+1,0] (ps++[.d r])) (hn:ps.length=n+1:=by rfl) (ht:((ps.map Pt.dat).all fun r=>!isT r)=true:=by rfl):FnD P f xs (.tp [.t (ps.map Pt.dat),r]):=⟨h.enter,fun F w vs hv hF=>(h.calls F w vs hv hF).mono (by
 rintro e' w' ⟨us,T,rfl,hX,hl,hT,_,hel⟩
 have hd:=te (F:=F) hT (ps++[.d r]) us 0 hl (fun i p hp=>by rw [Nat.zero_add];exact hel i p hp)
 have hlen:us.length=n+2:=by rw [hl];simp [hn]
 rw [List.map_append] at hd
 obtain ⟨h1,h2⟩:=CM (n+1) _ _ hd
 rw [List.take_append_of_le_length (by simp [hn]),List.take_of_length_le (by simp [hn])] at h1
 rw [List.drop_append_of_le_length (by simp [hn]),List.drop_of_length_le (by simp [hn])] at h2
 obtain ⟨v,t,e1,h3,h4⟩:=h2
 cases (show t = [] from h4)
 refine ⟨_,rfl,hX,?_⟩
 have:qk [n+1,0] us = [.agg (us.take (n+1)).toArray,v]:=by
  unfold qk qk qk
  rw [e1];rfl
 rw [this]
 exact ⟨_,rfl,_,_,rfl,⟨_,rfl,vw _ _ ht h1⟩,_,_,rfl,h3,rfl⟩)⟩
theorem gy (b:Big) (hi:b.inner.length≤1000):FnD Tryz.prog 169 [b.D] (.row 1 9 ((b.inner.map Wr.name).map .s)):=by
 refine ah Tryz.func169 (fun hw W0=>?_)
 refine kgo ?_
 refine ai [8,9] (fun i:Nat=>i≤b.inner.length) (fun i=>b.inner.length - i) (fun i=>[(3,.sy (.k 20001)),(20001,.tk (.row 1 9 (((b.inner.take i).map Wr.name).map .s))),(10,.sy (.d (.i i)))]) 0 (Nat.zero_le _) (fun i hi=>?_)
 refine kgo ?_
 refine aL (fun h=>?_) (fun h=>?_)
 ·have hlt:i<b.inner.length:=by omega
  have hs:((b.inner.take (i+1)).map Wr.name).map D.s=((b.inner.take i).map Wr.name).map .s++[.s b.inner[i].name]:=by rw [List.take_succ_eq_append_getElem hlt,List.map_append,List.map_append];rfl
  refine kgo ?_
  exact af (i+1) hlt (by omega)
 rw [List.take_of_length_le (by omega)]
 refine kgo ?_
 exact pt
def iC (b:Big) (l:Int):Int × ByteArray:=if l<b.edges then (l,⟨#[]⟩) else (0,b.outer.getD (l - b.edges).toNat ⟨#[]⟩)
abbrev sK (e:Int × ByteArray):D:=.t [.i e.1,.s e.2]
theorem AC (b:Big) (l:Int) (h0:0≤b.edges∧b.edges≤1000) (h1:b.edges≤l→l - b.edges<b.outer.length) (ho:b.outer.length≤1000):FnD Tryz.prog 306 [b.D,.i l] (.d (sK (iC b l))):=by
 refine ah Tryz.func306 (fun hw W0=>?_)
 refine kgo ?_
 refine aL (fun h=>?_) (fun h=>?_)
 ·rw [show iC b l=(l,⟨#[]⟩) from if_pos h]
  refine kgo ?_
  exact aq
 ·have h1:=h1 (by omega)
  obtain ⟨q,hq⟩:=Int.eq_ofNat_of_zero_le (show 0≤l - b.edges by omega)
  have hql:q<b.outer.length:=by omega
  rw [show iC b l=(0,b.outer[q]) from by unfold iC;rw [if_neg h,hq,Int.toNat_natCast];simp [hql]]
  refine kgo ?_
  refine dm (n:=q) (fun _=>?_) rfl rfl (congrArg some hq)
  refine kgo ?_
  exact aq
theorem BN (e:Int × ByteArray):FnD Tryz.prog 341 [sK e] (.d (sK e)):=by
 refine ah Tryz.func341 (fun hw W0=>?_)
 refine kgo ?_
 exact aq
theorem me (s:ByteArray):(s.toList == (ByteArray.mk #[]).toList)=true↔s=⟨#[]⟩:=by
 rw [beq_iff_eq,ByteArray.toList_eq,ByteArray.toList_eq]
 constructor
 ·intro h
  exact ByteArray.ext (Array.ext' (by simpa using h))
 ·rintro rfl;rfl
theorem sd (b:Big) (g:Nat) (cs:List D) (e r:Int × ByteArray) (hct:(cs.all fun r=>!isT r)=true) (he : -1000≤e.1∧e.1≤1000) (hb:0≤b.edges∧b.edges≤1000) (hg:¬e.2=⟨#[]⟩→FnD Tryz.prog g ([.s e.2]++cs) (.d (sK r))):FnD Tryz.prog 342 [sK e,.p b.D,.p (.f g cs)] (.d (sK (if e.2=⟨#[]⟩ then (e.1+b.edges,⟨#[]⟩) else r))):=by
 refine ah Tryz.func342 (fun hw W0=>?_)
 refine kgo ?_
 refine cIf (fun h=>?_) (fun h=>?_)
 ·rw [if_pos ((me _).1 h)]
  refine kgo ?_
  exact aq
 ·have h:¬e.2=⟨#[]⟩:=fun e=>by rw [(me _).2 e] at h;cases h
  rw [if_neg h]
  have hg:=hg h
  refine kgo ?_
  exact aq
theorem zN (b:Big) (p y:Int) (g:Nat) (cs:List D) (hct:(cs.all fun r=>!isT r)=true) (hp:p≤1000) (hn:b.nodes.length≤1000) (hg:p<0→FnD Tryz.prog g ([.i p]++cs) (.d (.i y))):FnD Tryz.prog 343 [b.D,.i p,.f g cs] (.d (.i (if 0≤p then p+b.nodes.length else y))):=by
 refine ah Tryz.func343 (fun hw W0=>?_)
 refine kgo ?_
 refine aL (fun h=>?_) (fun h=>?_)
 ·rw [if_pos h]
  refine kgo ?_
  exact aq
 ·rw [if_neg h]
  have hg:=hg (by omega)
  refine kgo ?_
  exact aq
theorem oL (a:Big) (p:Int) (hp:0≤-1 - p∧-1 - p<a.sites.length) (hs:a.sites.length≤1000):FnD Tryz.prog 304 [.i p,.p a.D] (.d (.i (atI a.sites (-1 - p)))):=by
 refine ah Tryz.func304 (fun hw W0=>?_)
 refine kgo ?_
 exact aq
theorem nj (l:List ByteArray) (g:Nat) (cs:List D) (p:ByteArray→Bool) (hct:(cs.all fun r=>!isT r)=true) (hp:∀x∈l,FnD Tryz.prog g ([.s x]++cs) (.d (.b (p x)))):FnD Tryz.prog 268 [DS l,.f g cs] (.d (.i (lc p l))):=by
 refine ah Tryz.func268 (fun hw W0=>?_)
 have hl:=(wfM hw.1).1
 refine kgo ?_
 refine ai [0,1,7] (fun i:Nat=>i≤l.length∧(l.take i).any p=false) (fun i=>l.length - i) (fun i=>[(8,.sy (.d (.i i)))]) 0 ⟨Nat.zero_le _,rfl⟩ (fun i hi=>?_)
 refine kgo ?_
 refine aL (fun h=>?_) (fun h=>?_)
 ·have hlt:i<l.length:=by omega
  have f1:=hp _ (List.getElem_mem hlt)
  refine kgo ?_
  refine cIf (fun h2=>?_) (fun h2=>?_)
  ·refine kgo ?_
   rw [mG hlt h2 hi.2]
   exact aq
  ·refine kgo ?_
   exact af (i+1) ⟨hlt,kI hlt hi.2 h2⟩ (by omega)
 refine kgo ?_
 rw [kh (mY (by omega) hi.2)]
 exact aq
theorem oJ (l:List ByteArray) (g:Nat) (cs:List D) (p:ByteArray→Bool) (hct:(cs.all fun r=>!isT r)=true) (hp:∀x∈l,FnD Tryz.prog g ([.s x]++cs) (.d (.b (p x)))):FnD Tryz.prog 300 [DS l,.f g cs] (.d (.b (l.any p))):=by
 refine ah Tryz.func300 (fun hw W0=>?_)
 have f1:=nj l g cs p hct hp
 have hr:=ex p l
 have hq:=lG p l
 refine kgo ?_
 rw [← hq]
 exact aq
theorem qr (l:List ByteArray) (s:ByteArray):FnD Tryz.prog 301 [.s s,.p (DS l)] (.d (.b (rv l s))):=by
 refine ah Tryz.func301 (fun hw W0=>?_)
 have f1:=oF l s
 refine kgo ?_
 exact aq
theorem nt (a c:List ByteArray):FnD Tryz.prog 269 [DS a,DS c] (.d (.b (a.any (rv c)))):=by
 refine ah Tryz.func269 (fun hw W0=>?_)
 have f1:=oJ a 301 [.p (DS c)] (rv c) rfl (fun x _=>qr c x)
 refine kgo ?_
 refine rL 3 (DS c) ?_
 refine kgo ?_
 exact aq
theorem wJ (a c:List ByteArray):FnD Tryz.prog 187 [DS a,DS c] (.d (.b (eqS a c))):=by
 refine ah Tryz.func187 (fun hw W0=>?_)
 have hl:=(wfM hw.1).1
 have hl2:=(wfM hw.2.1).1
 refine kgo ?_
 refine cIf (fun h=>?_) (fun h=>?_)
 ·have h:¬(a.length:Int)=c.length:=by simpa using h
  refine kgo ?_
  rw [vy h]
  exact aq
 have hlen:(a.length:Int)=c.length:=by simpa using h
 refine kgo ?_
 refine ai [0,1,12] (fun i:Nat=>i≤a.length∧(List.range i).all (mb a c)=true) (fun i=>a.length - i) (fun i=>[(13,.sy (.d (.i i)))]) 0 ⟨Nat.zero_le _,rfl⟩ (fun i hi=>?_)
 refine kgo ?_
 refine aL (fun h=>?_) (fun h=>?_)
 ·have hlt:i<a.length:=by omega
  have hlt2:i<c.length:=by omega
  have hs:=mt a c i hlt hlt2
  refine kgo ?_
  refine cIf (fun h3=>?_) (fun h3=>?_)
  ·refine kgo ?_
   rw [uO (c:=c) i hlt (by rw [hs];simpa using h3)]
   exact aq
  ·refine kgo ?_
   exact af (i+1) ⟨hlt,by rw [cL,hi.2,hs];simpa using h3⟩ (by omega)
 refine kgo ?_
 rw [show eqS a c=true from by unfold eqS;rw [fL _ _ i (by omega) hi.1 hi.2,Bool.and_true];exact decide_eq_true (by omega)]
 exact aq
theorem Ip (a b:Big) (hi:a.inner.length≤1000):FnD Tryz.prog 271 [a.D,b.D] (.d (.b (decide ((a.sites.length:Int)=b.roots) && eqS (a.inner.map Wr.name) b.outer))):=by
 have f1:=(gy a hi).toL
 have f2:=wJ (a.inner.map Wr.name) b.outer
 refine ah Tryz.func271 (fun hw W0=>?_)
 refine kgo ?_
 cases hd:decide ((a.sites.length:Int)=b.roots)
 ·refine kgo ?_
  exact aq
 ·refine kgo ?_
  exact aq
theorem wl {α:Type} (f:Nat→α) (i:Nat):(List.range (i+1)).map f=(List.range i).map f++[f i]:=by rw [List.range_succ,List.map_append];rfl
theorem yc (n:Nat) (l:List ByteArray) (hn:n≤1000) (hl:l.length≤1000):FnD Tryz.prog 239 [.i n,DS l] (.d (Big.D ⟨n,[],((List.range n).map fun i:Nat=>-1 - (i:Int)),0,l,(List.range l.length).map fun i:Nat=>⟨l.getD i ⟨#[]⟩,i⟩⟩)):=by
 have f1:=nP l hl
 refine ah Tryz.func239 (fun hw W0=>?_)
 refine kgo ?_
 refine nW 10005 1 20001 151 ?_
 refine nW 10005 2 20002 3 ?_
 refine nW 10005 5 20005 153 ?_
 refine ai [1,4,5,13,10011,20001,20005] (fun i:Nat=>i≤n) (fun i=>n - i) (fun i=>[(14,.sy (.d (.i i))),(10005,.tk (.bx [.d (.i n),.k 20001,.k 20002,.d (.i 0),.k 10011,.k 20005])),(20002,.tk (.row 1 3 (((List.range i).map fun i:Nat=>-1 - (i:Int)).map .i)))]) 0 (Nat.zero_le _) (fun i hi=>?_)
 refine kgo ?_
 refine aL (fun h=>?_) (fun h=>?_)
 ·have hlt:i<n:=by omega
  have hs:((List.range (i+1)).map fun i:Nat=>-1 - (i:Int)).map D.i=((List.range i).map fun i:Nat=>-1 - (i:Int)).map D.i++[.i (-1 - i)]:=by rw [wl,List.map_append];rfl
  have hr:=List.length_range (n:=i)
  refine kgo ?_
  exact af (i+1) hlt (by omega)
 obtain rfl:i=n:=by omega
 refine kgo ?_
 refine ai [4,5,25,26,10011,20001,20002] (fun j:Nat=>j≤l.length) (fun j=>l.length - j) (fun j=>[(27,.sy (.d (.i j))),(10005,.tk (.bx [.d (.i i),.k 20001,.k 20002,.d (.i 0),.k 10011,.k 20005])),(20005,.tk (.row 2 153 (((List.range j).map fun i:Nat=>(⟨l.getD i ⟨#[]⟩,i⟩:Wr)).map Wr.D)))]) 0 (Nat.zero_le _) (fun j hj=>?_)
 refine kgo ?_
 refine aL (fun h=>?_) (fun h=>?_)
 ·have hlt:j<l.length:=by omega
  have hs:((List.range (j+1)).map fun i:Nat=>(⟨l.getD i ⟨#[]⟩,i⟩:Wr)).map Wr.D=((List.range j).map fun i:Nat=>(⟨l.getD i ⟨#[]⟩,i⟩:Wr)).map Wr.D++[Wr.D ⟨l[j],j⟩]:=by rw [wl,List.map_append];simp [hlt]
  have hr:=List.length_range (n:=j)
  refine kgo ?_
  exact af (j+1) hlt (by omega)
 obtain rfl:j=l.length:=by omega
 refine bB (aB (aB (bC (aN ?_))))
 refine ou 10005 1 ?_
 refine ou 10005 2 ?_
 refine ou 10005 4 ?_
 refine ou 10005 5 ?_
 refine kgo ?_
 exact aq
end Go.Proofs.YtacafmejcdgboaaGreatDoor
namespace Go.Proofs.YtacafmejcdgboaaGreatDoor
open Go.RowKit
set_option linter.unusedVariables false
set_option linter.unusedSimpArgs false
mutual
def wT:D→Bool
 | .i _=>true
 | .s _=>true
 | .b _=>true
 | .n _=>true
 | .any=>true
 | .c _=>true
 | .t ds=>F4 ds
 | _=>false
def F4:List D→Bool
 | []=>true
 | d :: ds=>wT d && F4 ds
end
mutual
theorem xl {w:World} {S S':BS}:∀(d:D) (cs:List Value),wT d=true→Rp w S d cs→Rp w S' d cs
 | .i _,cs,_,r=>r
 | .s _,cs,_,r=>r
 | .b _,cs,_,r=>r
 | .n _,cs,_,r=>r
 | .any,cs,_,r=>r
 | .c _,cs,_,r=>r
 | .t ds,cs,h,r=>vI ds cs h r
 | .l _ _,_,h,_=>by cases h
 | .p _,_,h,_=>by cases h
 | .f _ _,_,h,_=>by cases h
theorem vI {w:World} {S S':BS}:∀(ds:List D) (cs:List Value),F4 ds=true→RpL w S ds cs→RpL w S' ds cs
 | [],cs,_,r=>r
 | d :: ds,cs,h,⟨c,e,h1,h2,h3⟩=>by
  have h':(wT d && F4 ds)=true:=h
  rw [Bool.and_eq_true] at h'
  exact ⟨c,e,h1,xl d c h'.1 h2,vI ds e h'.2 h3⟩
end
theorem EE {w:World} {S S':BS} {d:D} {v:Value} (h:wT d=true) (r:DV w S d v):DV w S' d v:=by
 cases d with
 | t ds=>obtain ⟨cs,h1,h2⟩:=r;exact ⟨cs,h1,vI ds cs h h2⟩
 | _=>exact xl (S:=S) _ _ h r
def F9:Pt→Prop
 | .d r=>wT r=true
 | .tk (.row _ _ ds)=>∀d∈ds,wT d=true
 | .tk (.deep _ _ _ _)=>True
 | .tk (.own _ _ _)=>True
 | .tk (.grw _ _ _)=>True
 | _=>False
theorem CF {w:World} {G G' S:BS} {p:Pt} {u:Value} (hp:F9 p) (h:p.ok w G S u):p.ok w G' S u:=by
 cases p with
 | d r=>exact ⟨h.1,EE hp h.2⟩
 | tk t=>
  obtain ⟨hb,h⟩:=h
  refine ⟨hb,?_⟩
  cases t with
  | bx cs=>cases hb
  | mp m=>cases hb
  | abs p tag=>cases hb
  | bxs cs=>cases hb
  | bxt cs u=>cases hb
  | grw z e ds=>exact h
  | own d pin tag=>exact h
  | deep z e ds ps=>exact h
  | row z e ds=>
   rcases h with h|⟨cells,h1,h2,h3⟩
   ·exact .inl h
   ·exact .inr ⟨cells,h1,h2,fun j hj=>by
     obtain ⟨cs,q1,q2,q3⟩:=h3 j hj
     exact ⟨cs,q1,xl _ _ (hp _ (List.getElem_mem hj)) q2,q3⟩⟩
def qN (c:Cx) (σ:Env):BS:=fun b=>c.F b∨∃i t,aj σ i=some (.tk t)∧c.T i b
def CN:Option In→Option D
 | some (.tk (.row z _ ds))=>some (.l z ds)
 | some (.tk (.deep z _ ds _))=>some (.l z ds)
 | some (.tk (.own (.l z ds) _ _))=>some (.l z ds)
 | some (.tk (.grw z _ ds))=>some (.l z ds)
 | _=>none
def Bi (σ:Env):List Sy→Option (List D)
 | []=>some []
 | s :: ss=>match (match s with | .k i=>CN (aj σ i) | .d r=>(match isT r with|true=>none|false=>some r)|_=>none),Bi σ ss with
  | some r,some rs=>some (r :: rs)
  | _,_=>none
def If (σ:Env):Sy→Option D
 | .k i=>CN (aj σ i)
 | .ag ss=>(Bi σ ss).map .t
 | s=>s.arg
def FF:Sy→List Nat
 | .k i=>[i]
 | .ag ss=>dE ss
 | _=>[]
def GB (σ:Env):List Operand→Option (List D)
 | []=>some []
 | x :: xs=>match (ev σ x).bind (If σ),GB σ xs with
  | some r,some rs=>some (r :: rs)
  | _,_=>none
def zG (σ:Env):List Operand→List Nat
 | []=>[]
 | x :: xs=>kx x++((((ev σ x).map FF).getD [])++zG σ xs)
theorem vU {W0:bN} {N:Nat} {a:Act} {w:World} {c:Cx} {σ:Env} (h:aC W0 N σ a w c) {i:Nat} {r:D} (hr:CN (aj σ i)=some r):isT r=false∧DV w (qN c σ) r (c.ρ i):=by
 cases hl:aj σ i with
 | none=>rw [hl] at hr;cases hr
 | some x=>
  rw [hl] at hr
  cases x with
  | sy s=>cases hr
  | no=>cases hr
  | tk t=>
   obtain ⟨hA,hT,_⟩:=h.tok i t hl
   cases t with
   | bx cs=>cases hr
   | mp m=>cases hr
   | abs p tag=>cases hr
   | bxs cs=>cases hr
   | bxt cs u=>cases hr
   | grw z e ds=>
    cases hr
    refine ⟨rfl,?_⟩
    rcases hT with ⟨hd,a0,hv⟩|⟨cells,U,h2,h3,h4,_,h6⟩
    ·subst hd
     exact ⟨a0,0,by rw [hv];rfl,Nat.le_refl _,by decide,fun _=>rfl,.inl rfl⟩
    ·have h1:(Tk.row z e ds).ok (Cx.of (c.T i)) w (c.ρ i) (c.T i):=.inr ⟨cells,h2,fun g hg=>(h3 g hg).1,fun j hj=>by
      obtain ⟨cs,q1,q2,q3⟩:=h6 j hj
      exact ⟨cs,q1,Rp.keep (fun b hb=>(h4 j b hb).1) (fun _ _ _=>rfl) _ _ (Ow.rp _ _ _ q2),q3⟩⟩
     exact DV.keep (fun b hb=>.inr ⟨i,_,hl,hb.elim _root_.id _root_.id⟩) (fun _ _ _=>rfl) (cP h1)
   | own d pin tag=>
    cases d with
    | l z ds=>
     cases hr
     exact ⟨rfl,DV.keep (fun b hb=>.inr ⟨i,_,hl,hb⟩) (fun _ _ _=>rfl) (show DV _ _ (.l z ds) _ from Ow.rp _ _ _ hT.1)⟩
    | _=>cases hr
   | row z e ds=>
    cases hr
    exact ⟨rfl,DV.keep (fun b hb=>hb.elim .inl (fun hb=>.inr ⟨i,_,hl,hb⟩)) (fun _ _ _=>rfl) (cP hT)⟩
   | deep z e ds ps=>
    cases hr
    refine ⟨rfl,?_⟩
    rcases hT with ⟨hd,_,a0,hv⟩|⟨cells,U,h2,h3,h4,_,h6,_⟩
    ·subst hd
     exact ⟨a0,0,by rw [hv];rfl,Nat.le_refl _,by decide,fun _=>rfl,.inl rfl⟩
    ·have h1:(Tk.row z e ds).ok (Cx.of (c.T i)) w (c.ρ i) (c.T i):=.inr ⟨cells,h2,fun g hg=>(h3 g hg).1,fun j hj=>by
      obtain ⟨cs,q1,q2,q3⟩:=h6 j hj
      exact ⟨cs,q1,Rp.keep (fun b hb=>(h4 j b hb).1) (fun _ _ _=>rfl) _ _ q2,q3⟩⟩
     exact DV.keep (fun b hb=>.inr ⟨i,_,hl,hb.elim _root_.id _root_.id⟩) (fun _ _ _=>rfl) (cP h1)
theorem HI {w:World} {S:BS} {r:D} {v:Value} (h:isT r=false) (hv:DV w S r v):Rp w S r [v]:=by
 cases r with
 | t ds=>cases h
 | _=>exact hv
theorem DU {W0:bN} {N:Nat} {a:Act} {w:World} {c:Cx} {σ σ':Env} (h:aC W0 N σ' a w c):∀(ss:List Sy) (rs:List D) (vs:List Value),Bi σ ss=some rs→(∀κ∈dE ss,aj σ' κ=aj σ κ)→Sy.oks c w ss vs→RpL w (qN c σ') rs vs:=by
 intro ss
 induction ss with
 | nil=>intro rs vs hr _ hv;cases hr;exact hv
 | cons s ss ih=>
  intro rs vs hr hk hv
  obtain ⟨y,t,rfl,hy,ht⟩:=hv
  unfold Bi at hr
  split at hr
  ·rename_i r rs' h1 h2
   cases hr
   refine ⟨[y],t,rfl,?_,ih rs' t h2 (fun κ hκ=>hk κ (by cases s <;> simp [dE,kSy,hκ])) ht⟩
   split at h1
   ·rename_i i
    rw [← hk i (by simp [dE,kSy])] at h1
    obtain ⟨q1,q2⟩:=vU h h1
    rw [hy.2]
    exact HI q1 q2
   ·rename_i r'
    split at h1
    ·cases h1
    ·rename_i hT
     cases h1
     exact HI hT (DV.keep (fun b hb=>.inl hb) (fun _ _ _=>rfl) hy)
   ·cases h1
  ·cases hr
theorem CS {W0:bN} {N:Nat} {a:Act} {w:World} {c:Cx} {σ σ':Env} (h:aC W0 N σ' a w c) {s:Sy} {r:D} (hr:If σ s=some r) (hk:∀κ∈FF s,aj σ' κ=aj σ κ) {v:Value} (hv:s.ok c w v):DV w (qN c σ') r v:=by
 have other:s.arg=some r→DV w (qN c σ') r v:=fun h1=>DV.keep (fun b hb=>.inl hb) (fun _ _ _=>rfl) (BK h1 hv)
 cases s with
 | k i=>
  have hr':CN (aj σ i)=some r:=hr
  rw [← hk i (by simp [FF])] at hr'
  rw [hv.2]
  exact (vU h hr').2
 | ag ss=>
  have hr':(Bi σ ss).map D.t=some r:=hr
  rw [Option.map_eq_some_iff] at hr'
  obtain ⟨rs,h1,rfl⟩:=hr'
  obtain ⟨vs,rfl,h2⟩:=hv
  exact ⟨vs,rfl,DU h ss rs vs h1 hk h2⟩
 | _=>exact other hr
theorem uw {W0:bN} {N:Nat} {a:Act} {w:World} {c:Cx} {σ σ':Env} (h:aC W0 N σ' a w c):∀(xs:List Operand) (ds:List D),GB σ xs=some ds→(∀κ∈zG σ xs,aj σ' κ=aj σ κ)→DVs w (qN c σ') ds (xs.map a.eval):=by
 intro xs
 induction xs with
 | nil=>intro ds he _;cases he;exact rfl
 | cons x xs ih=>
  intro ds he hk
  unfold GB at he
  split at he
  ·rename_i r rs h1 h2
   cases he
   rw [Option.bind_eq_some_iff] at h1
   obtain ⟨s,h3,h4⟩:=h1
   refine ⟨_,_,rfl,CS h h4 (fun κ hκ=>hk κ ?_) (am h (ab h3 (fun κ hκ=>hk κ (by simp [zG,hκ])))),ih rs h2 (fun κ hκ=>hk κ (by simp [zG,hκ]))⟩
   simp [zG,h3,hκ]
  ·cases he
theorem tX {W0:bN} {N:Nat} {a:Act} {w:World} {c:Cx} {σ:Env} (h:aC W0 N σ a w c):∀b,qN c σ b→b<w.heap.size:=fun b hb=>hb.elim (h.lt b) (fun ⟨i,t,hi,hT⟩=>((h.tok i t hi).2.2 b hT).2.1)
section
variable {P:Program} {ops:Array Oper} {W0:bN} {N:Nat} {Fin:Us→Env→Prop} {os:List Oper} {us:Us} {pk fk:List Nat} {σ:Env} {g:Option (Nat × Bool)} {gk:List Nat} {d ty ty' f:Nat} {pos:String} {after:Array Edge} {at':Array TypeId} {xs:List Operand} {ds:List D}
theorem jO {r:D} (h:Der P ops W0 N Fin os (us++[((d :: (gk++zG σ xs))++pk,([d])++fk)]) [] [] ((d,.sy (.d r)) :: σ)) (hx:GB σ xs=some ds:=by rfl) (hf:FnD P f ds (.d r):=by assumption) (hr:wT r=true:=by rfl) (hg:gst ops σ g=some (true,gk):=by rfl) (hN:Nat.blt d N=true:=by rfl) (hs:aE σ d=true:=by rfl):Der P ops W0 N Fin (⟨some d,.call { callee:=.value (.func f),args:=xs.toArray,argTypes:=at' },ty,pos,after,g⟩ :: os) us pk fk σ:=
 js (.d r) (zG σ xs) [] (fun σ' c a w hk hc=>by
  unfold Oper.wp
  rw [bE hf.enter rfl]
  refine (hf.calls (qN c σ') w _ (uw hc xs ds hx hk) (tX hc)).mono ?_
  rintro e w' ⟨v,rfl,hX,hv⟩
  exact ⟨v,_,rfl,hc.fresh hX,EE hr hv⟩) h hg hN hs rfl
theorem Ad {sh:List Nat} {ps:List Pt} (hp:∀p∈ps,F9 p) (h:Der P ops W0 N Fin os (us++[((d :: (gk++(((List.range ps.length).map fun k=>30000+1000 * k+d)++zG σ xs)))++pk,(d :: (nD d 0 ps).map Prod.fst)++fk)]) [] [] ((d,.sy (Fq (DX sh (Dj d 0 ps)))) :: (nD d 0 ps++σ))) (hx:GB σ xs=some ds:=by rfl) (hf:FnO P f ds sh ps:=by assumption) (hi:((List.range ps.length).all fun k=>(aj σ (30000+1000 * k+d)).isNone)=true:=by rfl) (hg:gst ops σ g=some (true,gk):=by rfl) (hN:Nat.blt d N=true:=by rfl) (hs:aE (nD d 0 ps++σ) d=true:=by rfl) (hu:(nD d 0 ps).all (fun p=>!(Nat.beq p.1 d))=true:=by rfl):Der P ops W0 N Fin (⟨some d,.call { callee:=.value (.func f),args:=xs.toArray,argTypes:=at' },ty,pos,after,g⟩ :: os) us pk fk σ:=
 js (Fq (DX sh (Dj d 0 ps))) (((List.range ps.length).map fun k=>30000+1000 * k+d)++zG σ xs) (nD d 0 ps) (fun σ' c a w hk hc=>by
  unfold Oper.wp
  rw [bE hf.enter rfl]
  refine (hf.calls (qN c σ') w _ (uw hc xs ds hx (fun κ hκ=>hk κ (by simp [hκ]))) (tX hc)).mono ?_
  rintro e' w' ⟨vs,T,rfl,hX,hl,hT,hdis,hel⟩
  have hc1:=hc.grow hX (fun b=>fresh w w' c.F b∧∀j,¬T j b) (fun b hb=>⟨.inl hb,fun j e=>by have:=hc.lt b hb;have e2:w.heap.size≤b:=(hT j b e).1;omega⟩) (fun _ h=>h.1.imp id (fun h=>h.1)) (fun b hb=>hb.1.elim (fun h'=>Nat.lt_of_lt_of_le (hc.lt b h') (Below.size hX)) (fun h=>h.2))
  obtain ⟨c',h1,h2,h3,h4,h5⟩:=pc hc1 d w.heap.size T hc.ext.size (fun j u hj b hb=>((hc.tok j u hj).2.2 b hb).2.1) (fun i b hb=>⟨fun hF=>hF.2 i hb,hT i b hb⟩) hdis ps 0 vs (fun k=>by
   rcases Nat.lt_or_ge k ps.length with hk'|hk'
   ·left
    rw [Nat.zero_add,hk _ (List.mem_append_left _ (List.mem_map.2 ⟨k,List.mem_range.2 hk',rfl⟩))]
    have:=List.all_eq_true.1 hi k (List.mem_range.2 hk')
    simpa using this
   ·exact .inr hk') hl (fun k p hp'=>by
    rw [Nat.zero_add]
    obtain ⟨u,q1,q2⟩:=hel k p hp'
    exact ⟨u,q1,CF (hp p (List.mem_of_getElem? hp')) q2⟩)
  exact ⟨_,c',rfl,h1,vf _ _ (BY sh _ _ h5)⟩) h hg hN hs hu
end
end Go.Proofs.YtacafmejcdgboaaGreatDoor
namespace Go.Proofs.YtacafmejcdgboaaGreatDoor
open Go.RowKit
set_option linter.unusedVariables false
set_option linter.unusedSimpArgs false
mutual
def ED:D→Bool
 | .any=>false
 | .c _=>false
 | .t ds=>AQ ds
 | _=>true
def AQ:List D→Bool
 | []=>true
 | d :: ds=>ED d && AQ ds
end
theorem Ow.mono {w:World} {d:D} {T T':BS} {cs:List Value} (h:Ow w d T cs) (hT:∀b,T b→T' b):Ow w d T' cs:=Ow.keep (Nat.le_refl _) d T T' cs hT (fun _ _ _=>rfl) h
theorem OwL.mono {w:World} {ds:List D} {T T':BS} {cs:List Value} (h:OwL w ds T cs) (hT:∀b,T b→T' b):OwL w ds T' cs:=OwL.keep (Nat.le_refl _) ds T T' cs hT (fun _ _ _=>rfl) h
mutual
def Gu:D→List D
 | .t ds=>Iw ds
 | d=>[d]
def Iw:List D→List D
 | []=>[]
 | d :: ds=>Gu d++Iw ds
end
theorem OwL.split {w:World}:∀(xs ys:List D) (V:BS) (cs:List Value),OwL w (xs++ys) V cs→∃(T1 T2:BS) (c e:List Value),(∀x,T1 x→V x)∧(∀x,T2 x→V x)∧(∀x,T1 x→¬T2 x)∧cs=c++e∧OwL w xs T1 c∧OwL w ys T2 e:=by
 intro xs
 induction xs with
 | nil=>exact fun ys V cs h=>⟨fun _=>False,V,[],cs,fun _ h=>h.elim,fun _ h=>h,fun _ h=>h.elim,rfl,rfl,h⟩
 | cons d xs ih=>
  intro ys V cs ⟨T1,T2,c,e,h1,h2,h3,h4,h5,h6⟩
  obtain ⟨U1,U2,c',e',k1,k2,k3,k4,k5,k6⟩:=ih ys T2 e h6
  refine ⟨fun x=>T1 x∨U1 x,U2,c++c',e',fun x hx=>hx.elim (h1 x) (fun h=>h2 x (k1 x h)),fun x hx=>h2 x (k2 x hx),fun x hx hu=>hx.elim (fun h=>h3 x h (k2 x hu)) (fun h=>k3 x h hu),by rw [h4,k4,List.append_assoc],⟨T1,U1,c,c',fun _ h=>.inl h,fun _ h=>.inr h,fun x h hu=>h3 x h (k1 x hu),rfl,h5,k5⟩,k6⟩
mutual
theorem AA {w:World}:∀(d:D) (V:BS) (cs:List Value),OwL w (Gu d) V cs→Ow w d V cs
 | .t ds,V,cs,h=>AG ds V cs h
 | .i n,V,cs,h=>lK h
 | .s n,V,cs,h=>lK h
 | .b n,V,cs,h=>lK h
 | .n z,V,cs,h=>lK h
 | .l z xs,V,cs,h=>lK h
 | .p d,V,cs,h=>lK h
 | .f g ds,V,cs,h=>lK h
 | .any,V,cs,h=>lK h
 | .c _,V,cs,h=>lK h
theorem AG {w:World}:∀(ds:List D) (V:BS) (cs:List Value),OwL w (Iw ds) V cs→OwL w ds V cs
 | [],V,cs,h=>h
 | d :: ds,V,cs,h=>by
  obtain ⟨T1,T2,c,e,h1,h2,h3,h4,h5,h6⟩:=OwL.split (Gu d) (Iw ds) V cs h
  exact ⟨T1,T2,c,e,h1,h2,h3,h4,AA d T1 c h5,AG ds T2 e h6⟩
theorem lK {w:World} {d:D} {V:BS} {cs:List Value} (h:OwL w [d] V cs):Ow w d V cs:=by
 obtain ⟨T1,T2,c,e,h1,h2,h3,h4,h5,h6⟩:=h
 have:e = []:=h6
 subst this
 rw [List.append_nil] at h4
 subst h4
 exact h5.mono h1
end
theorem tA {w:World}:∀(es:List D) (vs:List Value) (T:Nat→BS),vs.length=es.length→(∀(i:Nat) (d:D),es[i]? = some d→∃u,vs[i]? = some u∧Ow w d (T i) [u])→(∀i j,i≠j→∀b,T i b→¬T j b)→OwL w es (fun b=>∃i,T i b) vs:=by
 intro es
 induction es with
 | nil=>exact fun vs T h _ _=>List.eq_nil_of_length_eq_zero h
 | cons d es ih=>
  intro vs T hl h hoff
  cases vs with
  | nil=>simp at hl
  | cons v vs=>
   obtain ⟨u,h1,h2⟩:=h 0 d (by simp)
   simp at h1
   subst h1
   have h3:=ih vs (fun i=>T (i+1)) (by simpa using hl) (fun i d' hi=>by
    obtain ⟨u,q1,q2⟩:=h (i+1) d' (by simpa using hi)
    exact ⟨u,by simpa using q1,q2⟩) (fun i j hij=>hoff (i+1) (j+1) (by omega))
   exact ⟨T 0,fun b=>∃i,T (i+1) b,[v],vs,fun _ h=>⟨0,h⟩,fun _ ⟨i,h⟩=>⟨i+1,h⟩,fun b h0 ⟨i,h⟩=>hoff 0 (i+1) (by omega) b h0 h,rfl,h2,h3⟩
theorem Jo {w w':World} {V:BS} (hsz:w.heap.size≤w'.heap.size):∀(ds:List D) (n:Nat) (U:BS) (z b o:Nat) (r:D) (cs':List Value),OwR w ds U z b o→n<ds.length→(∀c,U c→c<w.heap.size→w'.heap[c]? = w.heap[c]?)→(∀j,j<o+n * z∨o+n * z+z≤j→w'.cell? ⟨b,j,none⟩=w.cell? ⟨b,j,none⟩)→Ow w' r V cs'→cs'.length=z→bD w' b (o+n * z) cs'→(∀c,V c→¬U c)→OwR w' (ds.set n r) (fun x=>U x∨V x) z b o
 | [],n,U,z,b,o,r,cs',h,hn,_,_,_,_,_,_=>absurd hn (Nat.not_lt_zero _)
 | d :: ds,0,U,z,b,o,r,cs',⟨U1,U2,h1,h2,h3,⟨cs,h4,h5,h6⟩,h7⟩,hn,hag,hc,hr,hl,hca,hV=>by
  rw [Nat.zero_mul,Nat.add_zero] at hc hca
  exact ⟨V,U2,fun _ h=>.inr h,fun x h=>.inl (h2 x h),fun x hv hu=>hV x hv (h2 x hu),⟨cs',hl,hr,hca⟩,OwR.keep2 hsz ds U2 z b (o+z) (fun c hcu hcl=>hag c (h2 c hcu) hcl) (fun j hj=>hc j (.inr hj)) h7⟩
 | d :: ds,n+1,U,z,b,o,r,cs',⟨U1,U2,h1,h2,h3,⟨cs0,h4,h5,h6⟩,h7⟩,hn,hag,hc,hr,hl,hca,hV=>by
  have e:o+z+n * z=o+(n+1) * z:=by rw [Nat.succ_mul];omega
  have hz:z≤(n+1) * z:=Nat.le_mul_of_pos_left z (Nat.succ_pos n)
  refine ⟨U1,fun x=>U2 x∨V x,fun x h=>.inl (h1 x h),fun x h=>h.imp (h2 x) id,fun x hx hu=>hu.elim (h3 x hx) (fun hv=>hV x hv (h1 x hx)),⟨cs0,h4,Ow.keep hsz d U1 U1 cs0 (fun _ h=>h) (fun c hcu hcl=>hag c (h1 c hcu) hcl) h5,fun j u hj=>?_⟩,Jo hsz ds n U2 z b (o+z) r cs' h7 (by simpa using hn) (fun c hcu hcl=>hag c (h2 c hcu) hcl) (fun j hj=>hc j (by rw [e] at hj;exact hj)) hr hl (by rw [e];exact hca) (fun c hv hu=>hV c hv (h2 c hu))⟩
  have hj':=(List.getElem?_eq_some_iff.1 hj).1
  exact (hc (o+j) (.inl (by omega))).trans (h6 j u hj)
theorem aC.eatM {W0:bN} {N:Nat} {σ:Env} {a:Act} {w w':World} {c:Cx} (h:aC W0 N σ a w c) {i:Nat} {t u:Tk} (ks:List Nat) (hi:aj σ i=some (.tk t)) (hks:∀κ∈ks,κ≠i∧∃t,aj σ κ=some (.tk t)) (hg:Chg (c.T i) w w') (hu:eV c.F w w'→u.ok c w' (c.ρ i) (fun b=>c.T i b∨∃κ,κ∈ks∧c.T κ b)) :
 aC W0 N (((i,.tk u) :: ks.map fun κ=>(κ,.no))++σ) a w' { c with T:=fun j=>if j=i then (fun b=>c.T i b∨∃κ,κ∈ks∧c.T κ b) else c.T j }:=by
 obtain ⟨hAi,_,hti⟩:=h.tok i t hi
 have hag:=h.agF hg (fun b hb=>(hti b hb).1)
 have lk:∀j,aj (((i,.tk u) :: ks.map fun κ=>(κ,In.no))++σ) j=if i=j then some (.tk u) else if j∈ks then some .no else aj σ j:=fun j=>by
  rw [List.cons_append,aa]
  split
  ·rfl
  ·rw [eK]
   have:∀(ks:List Nat),aj (ks.map fun κ=>(κ,In.no)) j=if j∈ks then some .no else none:=by
    intro ks
    induction ks with
    | nil=>rfl
    | cons k ks ih=>
     rw [List.map_cons,aa,ih]
     by_cases e:k=j
     ·subst e;simp
     ·rw [if_neg e];simp [Ne.symm e]
   rw [this]
   split <;> rfl
 have hle:c.Le { c with T:=fun j=>if j=i then (fun b=>c.T i b∨∃κ,κ∈ks∧c.T κ b) else c.T j }:=⟨fun _ h=>h,fun _ h=>⟨h,rfl⟩⟩
 have hV:∀b,(c.T i b∨∃κ,κ∈ks∧c.T κ b)→¬c.F b∧b<w.heap.size∧(W0.M b∨W0.w.heap.size≤b):=fun b hb=>by
  rcases hb with hb|⟨κ,hκ,hb⟩
  ·exact hti b hb
  ·obtain ⟨_,t',ht'⟩:=hks κ hκ
   exact (h.tok κ t' ht').2.2 b hb
 refine ⟨h.ext' hg (fun b hb=>(hti b hb).2.2),h.old,fun b hb=>Nat.lt_of_lt_of_le (h.lt b hb) hg.size,h.size,h.defers,fun j hj=>?_,fun j x hj=>?_,fun j k x y hj hk hne b=>?_,fun t' s ht'=>?_⟩
 ·rw [lk]
  split
  ·simp
  ·split
   ·simp
   ·exact h.all j hj
 ·rw [lk] at hj
  dsimp only
  split at hj
  ·rename_i e
   subst e
   cases hj
   rw [if_pos rfl]
   exact ⟨hAi,Tk.keep hle (Nat.le_refl _) (fun _ _ _=>rfl) (fun _ _ _=>rfl) u _ (hu hag),fun b hb=>⟨(hV b hb).1,Nat.lt_of_lt_of_le (hV b hb).2.1 hg.size,(hV b hb).2.2⟩⟩
  ·rename_i hne
   split at hj
   ·cases hj
   ·obtain ⟨k1,k2,k3⟩:=h.tok j x hj
    rw [if_neg (Ne.symm hne)]
    exact ⟨k1,Tk.keep hle hg.size hag (fun b hb hl=>hg.block b hl (fun hs=>h.off i j t x hi hj hne b hs hb)) x _ k2,fun b hb=>⟨(k3 b hb).1,Nat.lt_of_lt_of_le (k3 b hb).2.1 hg.size,(k3 b hb).2.2⟩⟩
 ·rw [lk] at hj hk
  have key:∀k y,i≠k→k ∉ ks→aj σ k=some (.tk y)→∀b,(c.T i b∨∃κ,κ∈ks∧c.T κ b)→¬c.T k b:=fun k y hik hkk hk b hb=>by
   rcases hb with hb|⟨κ,hκ,hb⟩
   ·exact h.off i k t y hi hk hik b hb
   ·obtain ⟨_,t',ht'⟩:=hks κ hκ
    exact h.off κ k t' y ht' hk (fun e=>hkk (e ▸ hκ)) b hb
  dsimp only
  by_cases e1:i=j
  ·subst e1
   rw [if_neg hne] at hk
   split at hk
   ·cases hk
   ·rename_i hkk
    rw [if_pos rfl,if_neg (Ne.symm hne)]
    exact key k y hne hkk hk b
  ·rw [if_neg e1] at hj
   split at hj
   ·cases hj
   ·rename_i hjk
    rw [if_neg (Ne.symm e1)]
    by_cases e2:i=k
    ·subst e2
     rw [if_pos rfl]
     exact fun h1 h2=>key j x e1 hjk hj b h2 h1
    ·rw [if_neg e2] at hk
     split at hk
     ·cases hk
     ·rw [if_neg (Ne.symm e2)]
      exact h.off j k x y hj hk hne b
 ·rw [lk] at ht'
  split at ht'
  ·cases ht'
  ·split at ht'
   ·cases ht'
   ·obtain ⟨x,h1,h2⟩:=h.tmp t' s ht'
    exact ⟨x,h1,Sy.keep hle hag s x h2⟩
mutual
theorem AP {w:World} {S T:BS}:∀(d:D) (cs:List Value),wT d=true→(match d with | .any=>False|_=>True)→ED d=true→Rp w S d cs→Ow w d T cs
 | .i _,cs,_,_,_,r=>r
 | .s _,cs,_,_,_,r=>r
 | .b _,cs,_,_,_,r=>r
 | .n _,cs,_,_,_,r=>r
 | .t ds,cs,h,_,h2,r=>vH ds cs h h2 r
 | .any,cs,_,h,_,_=>h.elim
 | .c _,cs,_,_,h2,_=>by cases h2
 | .l _ _,_,h,_,_,_=>by cases h
 | .p _,_,h,_,_,_=>by cases h
 | .f _ _,_,h,_,_,_=>by cases h
theorem vH {w:World} {S T:BS}:∀(ds:List D) (cs:List Value),F4 ds=true→AQ ds=true→RpL w S ds cs→OwL w ds T cs
 | [],cs,_,_,r=>r
 | d :: ds,cs,h,h2,⟨c,e,h3,h4,h5⟩=>by
  have h':(wT d && F4 ds)=true:=h
  have h2':(ED d && AQ ds)=true:=h2
  rw [Bool.and_eq_true] at h' h2'
  exact ⟨fun _=>False,T,c,e,fun _ h=>h.elim,fun _ h=>h,fun _ h=>h.elim,h3,AP d c h'.1 (by cases d <;> first|trivial|exact absurd h2'.1 (by decide)) h2'.1 h4,vH ds e h'.2 h2'.2 h5⟩
end
theorem zU {w:World} {c:Cx} {z e:Nat} {ds:List D} {v:Value} {S:BS} (hn:∀d∈ds,wT d=true∧ED d=true) (h:(Tk.row z e ds).ok c w v S):Ow w (.l z ds) S [v]:=by
 obtain ⟨a,k,h1,h2,h3,h4,h5⟩:=cP h
 refine ⟨a,k,h1,h2,h3,h4,?_⟩
 rcases h with ⟨hd,_⟩|⟨cells,own,hS,hel⟩
 ·exact .inl hd
 by_cases hd:ds = []
 ·exact .inl hd
 rcases own.2 with ⟨hv,hn0⟩|⟨g,cap,cur,hv,_,hg,q5,q6,q7,q8⟩
 ·exact .inl (List.eq_nil_of_length_eq_zero hn0)
 rw [hv] at h1
 have h1':=Value.slice.inj (List.cons.inj h1).1
 have hgo:v.ownBlock=some g:=by rw [hv];rfl
 obtain ⟨l1,l2⟩:=xh own hgo
 refine .inr ⟨g,0,fun _=>False,h1'.1.symm,hS g hgo,l1,fun q=>l2 q,fun _ h=>h.elim,?_⟩
 have:∀(es:List D) (o:Nat),(∀d∈es,wT d=true∧ED d=true)→(∀j (hj:j<es.length),∃cs,cs.length=z∧Rp w c.F es[j] cs∧bD w g (o+j * z) cs)→OwR w es (fun _=>False) z g o:=by
  intro es
  induction es with
  | nil=>intro o _ _;trivial
  | cons d es ih=>
   intro o hn hel
   obtain ⟨cs,p1,p2,p3⟩:=hel 0 (by simp)
   rw [Nat.zero_mul,Nat.add_zero] at p3
   refine ⟨fun _=>False,fun _=>False,fun _ h=>h,fun _ h=>h,fun _ h=>h.elim,⟨cs,p1,AP d cs (hn d (by simp)).1 (by have:=(hn d (by simp)).2;cases d <;> first|trivial|exact absurd this (by decide)) (hn d (by simp)).2 p2,p3⟩,ih (o+z) (fun d hd=>hn d (by simp [hd])) (fun j hj=>?_)⟩
   obtain ⟨cs,r1,r2,r3⟩:=hel (j+1) (by simpa using hj)
   refine ⟨cs,r1,by simpa using r2,?_⟩
   rw [show o+z+j * z=o+(j+1) * z by rw [Nat.succ_mul];omega]
   exact r3
 refine this ds 0 hn (fun j hj=>?_)
 obtain ⟨cs,p1,p2,p3⟩:=hel j hj
 refine ⟨cs,p1,p2,fun t u ht=>?_⟩
 have h9:=p3 t u ht
 rw [hv] at own
 rw [Nat.zero_add,World.ownsRow.cellAt own (j * z+t)]
 ·exact h9
 ·rcases Nat.lt_or_ge (j * z+t) cells.length with h|h
  ·rw [← own.1];exact h
  ·rw [List.getElem?_eq_none h] at h9;cases h9
section
variable {P:Program} {ops:Array Oper} {W0:bN} {N:Nat} {Fin:Us→Env→Prop} {os:List Oper} {us:Us} {pk fk:List Nat} {σ:Env} {g:Option (Nat × Bool)} {gk:List Nat} {d ty ty' f:Nat} {pos:String} {after:Array Edge} {at':Array TypeId} {x y:Operand} {i z n q e:Nat} {xs ds:List D}
theorem pI {C:Code} {Q:Exit→Act→World→Prop} (i:Nat) (hn:∀d∈ds,wT d=true∧ED d=true) (h:ar P W0 N C ((i,.tk (.own (.l z ds) none none)) :: σ) Q) (hi:aj σ i=some (.tk (.row z e ds)):=by rfl):ar P W0 N C σ Q:=by
 intro a w ⟨c,hc⟩
 obtain ⟨hA,hT,hlt⟩:=hc.tok i _ hi
 exact h a w ⟨c,hc.upd2 hi Chg.rfl' (fun _=>⟨zU hn hT,fun p hp=>(by cases hp),fun p hp=>(by cases hp)⟩)⟩
theorem Chg.set {S:BS} {w:World} {b o:Nat} {us':List Value} (hb:S b):Chg S w (w.setCells b o us'):=Chg.grown (by rw [gP];exact pO us' w b o) (fun g hg=>by cases hg;exact hb)
theorem GK {w:World} {S V:BS} {v:Value} {r:D} {us':List Value} (hO:Ow w (.l z xs) S [v]) (hn:n<xs.length) (hr:Ow w r V us') (hl:us'.length=z) (h1:us'.all (·.oneCell')=true) (hV:∀c,V c→¬S c∧c<w.heap.size):∃(b o k:Nat),v=.slice (some ⟨b,o,none⟩) xs.length k∧S b∧(∀{P:Program} {ty:Nat},sizeOf? P ty=some z→(Instr.storeAt ty (.pointer (some ⟨b,o+n * z,none⟩)) (.agg us'.toArray)).run P w=.ok () (w.setCells b (o+n * z) us'))∧Ow (w.setCells b (o+n * z) us') (.l z (xs.set n r)) (fun c=>S c∨V c) [v]:=by
 obtain ⟨a,k,e1,e2,e3,e4,e5⟩:=hO
 rcases e5 with e5|⟨b,o,U,rfl,f2,f3,f4,f5,f6⟩
 ·rw [e5] at hn;exact absurd hn (Nat.not_lt_zero _)
 have hch:Chg S w (w.setCells b (o+n * z) us'):=Chg.set f2
 have hch1:Chg (fun c=>c=b) w (w.setCells b (o+n * z) us'):=Chg.set rfl
 obtain ⟨Tn,cs,k1,k2,k3,k4,_⟩:=Fr xs n U z b o f6 hn
 have hin:∀j,j<us'.length→(w.cell? ⟨b,o+n * z+j,none⟩).isSome=true:=fun j hj=>by
  rw [k4 j _ (List.getElem?_eq_getElem (by omega))];rfl
 refine ⟨b,o,k,(List.cons.inj e1).1,f2,fun {P} {ty} hz=>?_,some ⟨b,o,none⟩,k,by rw [List.length_set];exact e1,by rw [List.length_set];exact e2,e3,e4,.inr ⟨b,o,fun c=>U c∨V c,rfl,.inl f2,Nat.lt_of_lt_of_le f3 hch.size,fun q=>by rw [World.frozen?_setCells];exact f4 q,fun c hc=>?_,?_⟩⟩
 ·have:=run_storeAt_mid (P:=P) w b (o+n * z) ty us'.toArray (fun j hj=>⟨hin j (by simpa using hj),f4 _⟩) (by simpa [hl] using cT hz) (all_oneCell_toArray (by simpa using h1))
  simpa using this
 ·rcases hc with hc|hc
  ·exact ⟨.inl (f5 c hc).1,(f5 c hc).2⟩
  ·exact ⟨.inr hc,fun e=>(hV c hc).1 (e ▸ f2)⟩
 ·refine Jo hch.size xs n U z b o r us' f6 hn (fun c hc hcl=>hch1.block c hcl (f5 c hc).2) (fun j hj=>World.cell?_setCells_out b us' (o+n * z) w ⟨b,j,none⟩ (fun _ _=>by rw [hl];exact hj)) (Ow.keep hch.size r V V us' (fun _ h=>h) (fun c hc hcl=>hch1.block c hcl (fun e=>(hV c hc).1 (e ▸ f2))) hr) hl (fun j u hj=>?_) (fun c hc hu=>(hV c hc).1 (f5 c hu).1)
  obtain ⟨hj1,hj2⟩:=List.getElem?_eq_some_iff.1 hj
  rw [World.cell?_setCells_in b us' (o+n * z) w hin j hj1,hj2]
theorem qj {es:List D} (h:Der P ops W0 N Fin os (us++[((gk++(i :: (kx x++kx y)))++pk,([i])++fk)]) [] [] ((i,.tk (.own (.l z (xs.set n (.t es))) none none)) :: σ)) (hx:ev σ x=some (.eo i q):=by rfl) (hi:aj σ i=some (.tk (.own (.l z xs) none none)):=by rfl) (hq:q=n * z:=by rfl) (hy:ev σ y=some (.d (.t es)):=by rfl) (hp:(F4 es && AQ es)=true:=by rfl) (hz:sizeOf? P ty'=some z:=by rfl) (hl:szs es=z:=by rfl) (hg:gst ops σ g=some (true,gk):=by rfl) (hn:n<xs.length:=by first|assumption|(rw [List.length_set];assumption)):Der P ops W0 N Fin (⟨none,.store ty' x y,ty,pos,after,g⟩ :: os) us pk fk σ:=
 kP (i :: (kx x++kx y)) [(i,.tk (.own (.l z (xs.set n (.t es))) none none))] (fun σ' c a w hk hc=>by
  subst hq
  have hi':=(hk i (by simp)).trans hi
  obtain ⟨hA,⟨hO,_,_⟩,hlt⟩:=hc.tok i _ hi'
  obtain ⟨_,b',o',m',k',e1,e2⟩:=am hc (ab hx (fun κ hκ=>hk κ (by simp [hκ])))
  obtain ⟨us',e3,e4⟩:=am hc (ab hy (fun κ hκ=>hk κ (by simp [hκ])))
  rw [Bool.and_eq_true] at hp
  have hr:Ow w (.t es) (fun _=>False) us':=vH es us' hp.1 hp.2 e4
  obtain ⟨b,o,k,f1,f2,f3,f4⟩:=GK hO hn hr ((RpL.len _ _ e4).trans hl) (List.all_eq_true.2 (fun u hu=>RpL.one _ _ e4 u hu)) (fun c h=>h.elim)
  rw [f1] at e1
  have e6:=Option.some.inj (Value.slice.inj e1).1
  have e7:b=b':=by injection e6
  have e8:o=o':=by injection e6
  subst e7;subst e8
  have hrun:(execOp a.eval ⟨none,.store ty' x y,ty,pos,after,g⟩).run P w=.ok .skip (w.setCells b (o+n * z) us'):=rf (X:=Instr.storeAt ty' (a.eval x) (a.eval y)) (by rw [e2,e3];exact f3 hz)
  unfold Oper.wp
  rw [hrun]
  refine ⟨rfl,c,hc.upd2 hi' (Chg.set f2) (fun hag=>⟨f4.mono (fun c h=>h.elim id False.elim),fun p hp=>(by cases hp),fun p hp=>(by cases hp)⟩)⟩) h hg
theorem rl {ss:List Sy} {es:List D} (r:D) (h:Der P ops W0 N Fin os (us++[((gk++(i :: (dE ss++(kx x++kx y))))++pk,(((i,In.tk (.own (.l z (xs.set n r)) none none)) :: (dE ss).map fun κ=>(κ,In.no)).map Prod.fst)++fk)]) [] [] (((i,.tk (.own (.l z (xs.set n r)) none none)) :: (dE ss).map fun κ=>(κ,.no))++σ)) (hx:ev σ x=some (.eo i q):=by rfl) (hi:aj σ i=some (.tk (.own (.l z xs) none none)):=by rfl) (hq:q=n * z:=by rfl) (hy:ev σ y=some (.ag ss):=by rfl) (ho:k9 σ ss=some es:=by rfl) (hr:Gu r=es:=by rfl) (hd:Af ss=true:=by rfl) (hni:((dE ss).all fun κ=>!(Nat.beq κ i))=true:=by rfl) (h1:ss.all (pp σ)=true:=by rfl) (hz:sizeOf? P ty'=some z:=by rfl) (hl:ss.length=z:=by rfl) (hg:gst ops σ g=some (true,gk):=by rfl) (hn:n<xs.length:=by first|assumption|(rw [List.length_set];assumption)):Der P ops W0 N Fin (⟨none,.store ty' x y,ty,pos,after,g⟩ :: os) us pk fk σ:=
 kP (i :: (dE ss++(kx x++kx y))) ((i,.tk (.own (.l z (xs.set n r)) none none)) :: (dE ss).map fun κ=>(κ,.no)) (fun σ' c a w hk hc=>by
  subst hq
  have hks:∀κ∈dE ss,aj σ' κ=aj σ κ:=fun κ hκ=>hk κ (by simp [hκ])
  have ho':=(mH ss hks).trans ho
  have hi':=(hk i (by simp)).trans hi
  obtain ⟨hA,⟨hO,_,_⟩,hlt⟩:=hc.tok i _ hi'
  obtain ⟨_,b',o',m',k',e1,e2⟩:=am hc (ab hx (fun κ hκ=>hk κ (by simp [hκ])))
  obtain ⟨us',e3,e4⟩:=am hc (ab hy (fun κ hκ=>hk κ (by simp [hκ])))
  obtain ⟨p1,p2,p3⟩:=vq hc ss es us' ho' e4
  have hkey:∀(m κ:Nat),ss[m]? = some (.k κ)→κ∈dE ss∧∃t,aj σ' κ=some (.tk t):=fun m κ hm=>by
   have:∀(ss:List Sy) (es:List D) (m:Nat),k9 σ' ss=some es→ss[m]? = some (.k κ)→κ∈dE ss∧∃t,aj σ' κ=some (.tk t):=by
    intro ss
    induction ss with
    | nil=>intro es m _ hm;simp at hm
    | cons s ss ih=>
     intro es m ho hm
     have tl:∃es',k9 σ' ss=some es':=by
      cases s with
      | k j=>unfold k9 at ho;split at ho;exact ⟨_,by assumption⟩;cases ho
      | d r=>unfold k9 at ho;split at ho;exact ⟨_,by assumption⟩;cases ho
      | _=>cases ho
     obtain ⟨es',hes'⟩:=tl
     cases m with
     | zero=>
      simp at hm
      subst hm
      refine ⟨by simp [dE,kSy],?_⟩
      unfold k9 at ho
      split at ho
      ·exact ⟨_,by assumption⟩
      ·cases ho
     | succ m=>
      obtain ⟨q1,q2⟩:=ih es' m hes' (by simpa using hm)
      exact ⟨by simp [dE,q1],q2⟩
   exact this ss es m ho' hm
  have htk:∀(m b:Nat),tkT c ss[m]? b→∃κ,ss[m]? = some (.k κ)∧c.T κ b:=fun m b hb=>by
   cases hm:ss[m]? with
   | none=>rw [hm] at hb;exact hb.elim
   | some s=>
    rw [hm] at hb
    cases s with
    | k κ=>exact ⟨κ,rfl,hb⟩
    | _=>exact hb.elim
  have hcells:=tA es us' (fun m=>tkT c ss[m]?) p1 p3 (fun m m' hmm b hb hb'=>by
   obtain ⟨κ,q1,q2⟩:=htk m b hb
   obtain ⟨κ',q3,q4⟩:=htk m' b hb'
   have hne:κ≠κ':=by
    rcases Nat.lt_or_ge m m' with hlt|hge
    ·exact jX ss m m' κ κ' hd hlt q1 q3
    ·exact fun e=>jX ss m' m κ' κ hd (by omega) q3 q1 e.symm
   obtain ⟨t,ht⟩:=(hkey m κ q1).2
   obtain ⟨t',ht'⟩:=(hkey m' κ' q3).2
   exact hc.off κ κ' t t' ht ht' hne b q2 q4)
  have hV:∀b,(∃m:Nat,tkT c ss[m]? b)→∃κ,κ∈dE ss∧c.T κ b:=fun b ⟨m,hb⟩=>by
   obtain ⟨κ,q1,q2⟩:=htk m b hb
   exact ⟨κ,(hkey m κ q1).1,q2⟩
  have hkt:∀κ∈dE ss,κ≠i∧∃t,aj σ' κ=some (.tk t):=fun κ hκ=>by
   refine ⟨fun e=>?_,?_⟩
   ·have:=List.all_eq_true.1 hni κ hκ
    rw [e] at this;simp at this
   ·have:∀(ss:List Sy),κ∈dE ss→∃m:Nat,ss[m]? = some (Sy.k κ):=by
     intro ss
     induction ss with
     | nil=>intro h;simp [dE] at h
     | cons s ss ih=>
      intro h
      rw [dE,List.mem_append] at h
      rcases h with h|h
      ·cases s with
       | k j=>simp [kSy] at h;subst h;exact ⟨0,rfl⟩
       | _=>simp [kSy] at h
      ·obtain ⟨m,hm⟩:=ih h;exact ⟨m+1,by simpa using hm⟩
    obtain ⟨m,hm⟩:=this ss hκ
    exact (hkey m κ hm).2
  have hr':Ow w r (fun b=>∃m:Nat,tkT c ss[m]? b) us':=AA r _ us' (by rw [hr];exact hcells)
  obtain ⟨b,o,k,f1,f2,f3,f4⟩:=GK hO hn hr' ((cY _ _ e4).trans hl) (List.all_eq_true.2 (q9 hc ss us' e4 ((gU hks).trans h1))) (fun b hb=>by
   obtain ⟨κ,q1,q2⟩:=hV b hb
   obtain ⟨q3,t,q4⟩:=hkt κ q1
   exact ⟨hc.off κ i t _ q4 hi' q3 b q2,((hc.tok κ t q4).2.2 b q2).2.1⟩)
  rw [f1] at e1
  have e6:=Option.some.inj (Value.slice.inj e1).1
  have e7:b=b':=by injection e6
  have e8:o=o':=by injection e6
  subst e7;subst e8
  have hrun:(execOp a.eval ⟨none,.store ty' x y,ty,pos,after,g⟩).run P w=.ok .skip (w.setCells b (o+n * z) us'):=rf (X:=Instr.storeAt ty' (a.eval x) (a.eval y)) (by rw [e2,e3];exact f3 hz)
  unfold Oper.wp
  rw [hrun]
  refine ⟨rfl,_,hc.eatM (dE ss) hi' hkt (Chg.set f2) (fun hag=>⟨f4.mono (fun c h=>h.imp id (hV c)),fun p hp=>(by cases hp),fun p hp=>(by cases hp)⟩)⟩) h hg
theorem t6 {j o:Nat} {cs:List Sy} (h:Der P ops W0 N Fin os (us++[((gk++(i :: ([j]++(kx x++kx y))))++pk,([i])++fk)]) [] [] ((i,.tk (.bx (cs.set o (.k j)))) :: σ)) (hx:ev σ x=some (.bx i o):=by rfl) (hi:aj σ i=some (.tk (.bx cs)):=by rfl) (hy:ev σ y=some (.k j):=by rfl) (h1:pp σ (.k j)=true:=by rfl) (ho:Nat.blt o cs.length=true:=by rfl) (hz:sizeOf? P ty'=some 1:=by rfl) (hg:gst ops σ g=some (true,gk):=by rfl):Der P ops W0 N Fin (⟨none,.store ty' x y,ty,pos,after,g⟩ :: os) us pk fk σ:=
 kP (i :: ([j]++(kx x++kx y))) [(i,.tk (.bx (cs.set o (.k j))))] (fun σ' c a w hk hc=>by
  obtain ⟨hAi,b,e1,e2⟩:=am hc (ab hx (fun κ hκ=>hk κ (by simp [hκ])))
  have hi':=(hk i (by simp)).trans hi
  obtain ⟨_,⟨b',vs,e3,e4,e5,e6⟩,hlt⟩:=hc.tok i _ hi'
  rw [e1] at e3;cases e3
  have hv:=am hc (ab hy (fun κ hκ=>hk κ (by simp [hκ])))
  have hone:(a.eval y).oneCell'=true:=mZ hc hv ((kF (fun κ hκ=>hk κ (by simp [kSy] at hκ;simp [hκ]))).trans h1)
  have hol:o<vs.length:=by rw [cY _ _ e5];exact Nat.blt_eq.mp ho
  obtain ⟨q4,q5⟩:=e6 o _ (List.getElem?_eq_getElem hol)
  unfold Oper.wp
  rw [fT hz hone q4 q5 e2 rfl]
  have hch:Chg (c.T i) w (w.setCell ⟨b,o,none⟩ (a.eval y)):=Chg.grown (bL b o _) (fun g hg=>by cases hg;exact e4)
  refine ⟨rfl,c,hc.upd hi' hch (by simp) (fun hag=>⟨b,vs.set o (a.eval y),e1,e4,?_,e6.set o _⟩)⟩
  exact jN _ _ _ _ _ (Sy.keeps (Cx.Le.refl c) hag _ _ e5) (Sy.keep (Cx.Le.refl c) hag _ _ hv)) h hg
theorem DZ (us' vs:List Value) (o:Nat) (h:o+us'.length≤vs.length):jD vs o us'=vs.take o++(us'++vs.drop (o+us'.length)):=by
 apply List.ext_getElem?
 intro j
 by_cases h1:j<o
 ·rw [iq us' vs o j (.inl h1),List.getElem?_append_left (by rw [List.length_take];omega),List.getElem?_take,if_pos h1]
 rw [List.getElem?_append_right (by rw [List.length_take];omega),List.length_take,Nat.min_eq_left (by omega)]
 by_cases h2:j - o<us'.length
 ·rw [List.getElem?_append_left h2]
  have:=jd us' vs o (j - o) _ (by omega) (List.getElem?_eq_getElem h2)
  rw [show o+(j - o)=j by omega] at this
  rw [this,List.getElem?_eq_getElem h2]
 ·rw [iq us' vs o j (.inr (by omega)),List.getElem?_append_right (by omega),List.getElem?_drop]
  congr 1;omega
theorem qY {o:Nat} {cs ss:List Sy} (h:Der P ops W0 N Fin os (us++[((gk++(i :: (dE ss++(kx x++kx y))))++pk,([i])++fk)]) [] [] ((i,.tk (.bx (cs.take o++(ss++cs.drop (o+ss.length))))) :: σ)) (hx:ev σ x=some (.bx i o):=by rfl) (hi:aj σ i=some (.tk (.bx cs)):=by rfl) (hy:ev σ y=some (.ag ss):=by rfl) (hz:sizeOf? P ty'=some ss.length:=by rfl) (hl:Nat.ble (o+ss.length) cs.length=true:=by rfl) (h1:ss.all (pp σ)=true:=by rfl) (hg:gst ops σ g=some (true,gk):=by rfl):Der P ops W0 N Fin (⟨none,.store ty' x y,ty,pos,after,g⟩ :: os) us pk fk σ:=
 kP (i :: (dE ss++(kx x++kx y))) [(i,.tk (.bx (cs.take o++(ss++cs.drop (o+ss.length)))))] (fun σ' c a w hk hc=>by
  obtain ⟨hAi,b,e1,e2⟩:=am hc (ab hx (fun κ hκ=>hk κ (by simp [hκ])))
  have hi':=(hk i (by simp)).trans hi
  obtain ⟨_,⟨b',vs,e3,e4,e5,e6⟩,hlt⟩:=hc.tok i _ hi'
  rw [e1] at e3;cases e3
  obtain ⟨us',e7,e8⟩:=am hc (ab hy (fun κ hκ=>hk κ (by simp [hκ])))
  have hone:=gU (σ:=σ) (σ':=σ') (ss:=ss) (fun κ hκ=>hk κ (by simp [hκ]))
  rw [h1] at hone
  have hlu:=cY _ _ e8
  have hlen:o+us'.length≤vs.length:=by rw [hlu,cY _ _ e5];exact Nat.le_of_ble_eq_true hl
  obtain ⟨w',r1,r2,r3,r4⟩:=mB (P:=P) e6 o us' hlen ty' (by rw [hlu];exact cT hz) (List.all_eq_true.2 (fun u hu=>q9 hc _ _ e8 hone u hu))
  have hrun:(execOp a.eval ⟨none,.store ty' x y,ty,pos,after,g⟩).run P w=.ok .skip w':=rf (X:=Instr.storeAt ty' (a.eval x) (a.eval y)) (by rw [e2,e7];exact r1)
  unfold Oper.wp
  rw [hrun]
  rw [DZ us' vs o hlen,hlu] at r2
  exact ⟨rfl,c,hc.upd hi' (Chg.grown r3 (fun g hg=>by cases hg;exact e4)) r4 (fun hag=>⟨b,_,e1,e4,lg _ _ _ _ (lC o _ _ (Sy.keeps (Cx.Le.refl c) hag _ _ e5)) (lg _ _ _ _ (Sy.keeps (Cx.Le.refl c) hag _ _ e8) (lV _ _ _ (Sy.keeps (Cx.Le.refl c) hag _ _ e5))),r2⟩)⟩) h hg
end
def rD {α:Type} (f:α→D) (r:D) (i:Nat) (xs:List α):List D:=(xs.take i).map f++List.replicate (xs.length - i) r
theorem il {α:Type} (f:α→D) (r:D) (xs:List α):List.replicate xs.length r=rD f r 0 xs:=by simp [rD]
theorem jj {α:Type} {f:α→D} {r:D} {xs:List α} {ds:List D} {i:Nat} (h:i=xs.length) (hd:ds=rD f r i xs):ds=xs.map f:=by subst h;rw [hd];simp [rD]
theorem jp {α:Type} {f:α→D} {r:D} {xs:List α} {ds:List D} {i:Nat} (h:i≤xs.length) (hd:ds=rD f r i xs):ds.length=xs.length:=by subst hd;simp [rD];omega
theorem ln {α:Type} {f:α→D} {r:D} {xs:List α} {ds:List D} {i:Nat} (h:i<xs.length) (hd:ds=rD f r i xs):ds[i]? = some r:=by
 subst hd
 unfold rD
 rw [List.getElem?_append_right (by simp;omega),List.getElem?_replicate,if_pos (by rw [List.length_map,List.length_take];omega)]
theorem g9 {α:Type} {f:α→D} {r:D} {xs:List α} {ds:List D} {i:Nat} (h:i<xs.length) (hd:ds=rD f r i xs):ds.set i (f xs[i])=rD f r (i+1) xs:=by
 subst hd
 unfold rD
 have hl:((xs.take i).map f).length=i:=by simp;omega
 rw [List.set_append_right _ _ (by omega),hl,Nat.sub_self,show xs.length - i=(xs.length - (i+1))+1 by omega,List.replicate_succ,List.set_cons_zero,List.take_succ_eq_append_getElem h,List.map_append,List.append_assoc]
 rfl
theorem kgt {p q:Prop} (hq:q) (h:Beh q→p:=by intro h0;(repeat (first|(refine cy ?_;first|refine aV ?_|refine bY ?_|refine aY ?_|refine aZ ?_|refine aS ?_|refine bg ?_|refine bi ?_|refine ay ?_|refine be ?_)|(refine fo ?_;first|refine yJ ?_|refine bQ ?_|refine eZ ?_|refine cr ?_|refine b8 ?_)|(refine fa ?_;first|refine yv ?_|refine vu (h:=?_)|refine b9 ?_|refine cm ?_|refine bG ?_|refine cw ?_|refine ck ?_)|(refine fh ?_;first|refine yy ?_|refine cg ?_|refine eB ?_|refine bT ?_|refine bI ?_|refine cq ?_|refine bV ?_|refine bZ ?_)|(refine fe ?_;first|refine fl ?_|refine eS ?_|refine cd ?_|refine bP ?_|refine fq ?_|refine bl ?_|refine bo ?_)|(refine cu ?_;first|refine aX ?_|refine ch ?_)|(refine ff ?_;first|refine cj ?_|refine ct ?_|refine ft ?_)|(refine cf ?_;first|refine jq ?_|refine rA ?_|refine ca ?_|refine bd ?_|refine aQ ?_|refine ba ?_|refine aU ?_|refine bh ?_|refine jO ?_)|(refine fc ?_;first|refine b7 ?_|refine eY ?_|refine bj ?_|refine aR ?_|refine bm ?_)|(refine aI ?_;first|refine au _ ?_|refine bf ?_|refine aA ?_|refine av ?_|refine ax ?_|refine t6 ?_|refine qj ?_|refine qY ?_)|(refine fu ?_;first|refine cb ?_|refine bH ?_|refine bX ?_)|(refine gOp ?_;first|refine fd ?_|refine fm ?_|refine bc ?_|refine fp ?_|refine fj ?_|refine bU ?_|refine aT ?_|refine co ?_|refine fw ?_|refine bM ?_|refine b6 ?_|refine bk ?_|refine az ?_|refine bW ?_|refine sNo ?_|refine dO ?_|refine aw ?_)|refine dZ ?_|refine cN ?_|refine fB ?_|refine bp ?_|refine cz ?_|refine bB ?_|refine fC ?_|refine fI ?_|refine fx ?_|refine df ?_|refine cC ?_|refine aN ?_|refine aB ?_|refine bq ?_|refine ci ?_|refine bC ?_|refine aBlkX ?_|refine cA ?_));exact h0.out):p:=h ⟨hq⟩
end Go.Proofs.YtacafmejcdgboaaGreatDoor
namespace Go.Proofs.YtacafmejcdgboaaGreatDoor
open Go.RowKit
set_option linter.unusedVariables false
set_option linter.unusedSimpArgs false
theorem A3 {w:World} {S:BS} {z b:Nat}:∀(es:List D) (o:Nat),(∀d∈es,wT d=true∧ED d=true)→RpR w S z b o es→OwR w es (fun _=>False) z b o
 | [],o,_,_=>trivial
 | d :: es,o,hn,⟨⟨cs,h1,h2,h3⟩,h4⟩=>⟨fun _=>False,fun _=>False,fun _ h=>h,fun _ h=>h,fun _ h=>h.elim,⟨cs,h1,AP d cs (hn d (by simp)).1 (by have:=(hn d (by simp)).2;cases d <;> first|trivial|exact absurd this (by decide)) (hn d (by simp)).2 h2,h3⟩,A3 es (o+z) (fun d hd=>hn d (by simp [hd])) h4⟩
theorem HX {w:World} {T:BS} {x:Nd} {cs:List Value} (hT:∀b,T b→b<w.heap.size∧∀o,w.frozen? ⟨b,o,none⟩=false) (h:Rp w T x.D cs):Ow w x.D T cs:=by
 obtain ⟨c1,e1,rfl,h1,c2,e2,rfl,h2,c3,e3,rfl,h3,h4⟩:=h
 refine ⟨fun _=>False,T,c1,_,fun _ h=>h.elim,fun _ h=>h,fun _ h=>h.elim,rfl,h1,fun _=>False,T,c2,_,fun _ h=>h.elim,fun _ h=>h,fun _ h=>h.elim,rfl,h2,T,fun _=>False,c3,e3,fun _ h=>h,fun _ h=>h.elim,fun _ _ h=>h,rfl,?_,h4⟩
 obtain ⟨a,k,q1,q2,q3,q4,q5⟩:=h3
 refine ⟨a,k,q1,q2,q3,q4,q5.imp id ?_⟩
 rintro ⟨b,o,r1,r2,r3⟩
 exact ⟨b,o,fun _=>False,r1,r2,(hT b r2).1,(hT b r2).2,fun _ h=>h.elim,A3 _ o (fun d hd=>by obtain ⟨n,_,rfl⟩:=List.mem_map.1 hd;exact ⟨rfl,rfl⟩) r3⟩
theorem CY {w:World} {c:Cx} {z e:Nat} {ns:List Nd} {v:Value} {S:BS} (h:(Tk.deep z e (ns.map Nd.D) []).ok c w v S):Ow w (.l z (ns.map Nd.D)) S [v]:=by
 rcases h with ⟨hd,_,a0,hv⟩|⟨cells,T,own,h3,h4,h5,h6,_⟩
 ·rw [hd]
  exact ⟨a0,0,by rw [hv];rfl,Nat.le_refl _,by decide,fun _=>rfl,.inl rfl⟩
 rcases own.2 with ⟨hv,hn0⟩|⟨g,cap,cur,hv,_,hg,q5,q6,q7,q8⟩
 ·rw [List.eq_nil_of_length_eq_zero hn0]
  exact ⟨none,0,by rw [hv];rfl,Nat.le_refl _,by decide,fun _=>rfl,.inl rfl⟩
 have hgo:v.ownBlock=some g:=by rw [hv];rfl
 obtain ⟨l1,l2⟩:=xh own hgo
 obtain ⟨s1,s2⟩:=h3 g hgo
 refine ⟨some ⟨g,0,none⟩,cap,by rw [hv],q5,q6,fun h=>(by cases h),.inr ⟨g,0,fun b=>∃j,T j b,rfl,s1,l1,fun q=>l2 q,fun b ⟨j,hb⟩=>⟨(h4 j b hb).1,fun e=>s2 j (e ▸ hb)⟩,?_⟩⟩
 have:∀(es:List Nd) (o:Nat) (T:Nat→BS),(∀j b,T j b→b<w.heap.size∧∀o,w.frozen? ⟨b,o,none⟩=false)→(∀i j,i≠j→∀b,T i b→¬T j b)→(∀j (hj:j<es.length),∃cs,cs.length=z∧Rp w (T j) (es[j]).D cs∧bD w g (o+j * z) cs)→OwR w (es.map Nd.D) (fun b=>∃j,T j b) z g o:=by
  intro es
  induction es with
  | nil=>intro o T _ _ _;trivial
  | cons d es ih=>
   intro o T hT hoff hel
   obtain ⟨cs,p1,p2,p3⟩:=hel 0 (by simp)
   rw [Nat.zero_mul,Nat.add_zero] at p3
   refine ⟨T 0,fun b=>∃j,T (j+1) b,fun b h=>⟨0,h⟩,fun b ⟨j,h⟩=>⟨j+1,h⟩,fun b h ⟨j,h'⟩=>hoff 0 (j+1) (by omega) b h h',⟨cs,p1,HX (hT 0) p2,p3⟩,ih (o+z) (fun j=>T (j+1)) (fun j=>hT (j+1)) (fun i j hij=>hoff (i+1) (j+1) (by omega)) (fun j hj=>?_)⟩
   obtain ⟨cs,r1,r2,r3⟩:=hel (j+1) (by simpa using hj)
   refine ⟨cs,r1,by simpa using r2,?_⟩
   rw [show o+z+j * z=o+(j+1) * z by rw [Nat.succ_mul];omega]
   exact r3
 refine this ns 0 T (fun j b hb=>(h4 j b hb).2) h5 (fun j hj=>?_)
 obtain ⟨cs,p1,p2,p3⟩:=h6 j (by rw [List.length_map];exact hj)
 refine ⟨cs,p1,by rw [List.getElem_map] at p2;exact p2,fun t u ht=>?_⟩
 have h9:=p3 t u ht
 rw [hv] at own
 rw [Nat.zero_add,World.ownsRow.cellAt own (j * z+t)]
 ·exact h9
 ·rcases Nat.lt_or_ge (j * z+t) cells.length with h|h
  ·rw [← own.1];exact h
  ·rw [List.getElem?_eq_none h] at h9;cases h9
theorem Jc {P:Program} {W0:bN} {N:Nat} {σ:Env} {z e:Nat} {ns:List Nd} {C:Code} {Q:Exit→Act→World→Prop} (i:Nat) (h:ar P W0 N C ((i,.tk (.own (.l z (ns.map Nd.D)) none none)) :: σ) Q) (hi:aj σ i=some (.tk (.deep z e (ns.map Nd.D) [])):=by rfl):ar P W0 N C σ Q:=by
 intro a w ⟨c,hc⟩
 obtain ⟨hA,hT,hlt⟩:=hc.tok i _ hi
 exact h a w ⟨c,hc.upd2 hi Chg.rfl' (fun _=>⟨CY hT,fun p hp=>(by cases hp),fun p hp=>(by cases hp)⟩)⟩
theorem FnO.toR {P:Program} {f z:Nat} {xs ds:List D} (h:FnO P f xs [0] [.tk (.own (.l z ds) none none)]):FnD P f xs (.d (.l z ds)):=⟨h.enter,fun F w vs hv hF=>(h.calls F w vs hv hF).mono (by
 rintro e w' ⟨us,T,rfl,hX,hl,hT,hdis,hel⟩
 obtain ⟨u,h1,h2⟩:=hel 0 _ rfl
 have e:qk [0] us = [u]:=by
  cases us with
  | nil=>simp at hl
  | cons x t=>
   have:t = []:=List.eq_nil_of_length_eq_zero (by simpa using hl)
   subst this
   simp at h1
   subst h1
   rfl
 exact ⟨u,by rw [e];rfl,hX,Pt.frz hT h2⟩)⟩
section
variable {P:Program} {ops:Array Oper} {W0:bN} {N:Nat} {Fin:Us→Env→Prop} {os:List Oper} {us:Us} {pk fk:List Nat} {σ:Env} {g:Option (Nat × Bool)} {gk:List Nat} {d ty ty' ty2:Nat} {pos:String} {after:Array Edge} {x y:Operand} {s t:Sy}
theorem Hq {m:Int} (h:Der P ops W0 N Fin os (us++[((d :: (gk++(kx x++kx y)))++pk,([d])++fk)]) [] [] ((d,.sy (.d (.b false))) :: σ)) (hx:ev σ x=some s:=by rfl) (hy:ev σ y=some t:=by rfl) (hm:s.int? = some m:=by rfl) (hn:t.int? = some m:=by rfl) (hg:gst ops σ g=some (true,gk):=by rfl) (hN:Nat.blt d N=true:=by rfl) (hs:aE σ d=true:=by rfl):Der P ops W0 N Fin (⟨some d,.binOp .neq ty' x y ty2,ty,pos,after,g⟩ :: os) us pk fk σ:=eS (m:=m) (n:=m) (r:=false) h hx hy hm hn (by simp [Ix]) hg hN hs
theorem GP {m:Bool} (h:Der P ops W0 N Fin os (us++[((d :: (gk++(kx x++kx y)))++pk,([d])++fk)]) [] [] ((d,.sy (.d (.b false))) :: σ)) (hx:ev σ x=some s:=by rfl) (hy:ev σ y=some t:=by rfl) (hm:s.bool? = some m:=by rfl) (hn:t.bool? = some m:=by rfl) (ht:P.underlying ty'=some .bool:=by rfl) (hg:gst ops σ g=some (true,gk):=by rfl) (hN:Nat.blt d N=true:=by rfl) (hs:aE σ d=true:=by rfl):Der P ops W0 N Fin (⟨some d,.binOp .neq ty' x y ty2,ty,pos,after,g⟩ :: os) us pk fk σ:=bP (m:=m) (n:=m) (r:=false) h hx hy hm hn (by simp [IF]) ht hg hN hs
theorem HW {m n:Int} (h:Der P ops W0 N Fin os (us++[((d :: (gk++(kx x++kx y)))++pk,([d])++fk)]) [] [] ((d,.sy (.d (.b false))) :: σ)) (hx:ev σ x=some s:=by rfl) (hy:ev σ y=some t:=by rfl) (hm:s.int? = some m:=by rfl) (hn:t.int? = some n:=by rfl) (hr:¬m<n:=by omega) (hg:gst ops σ g=some (true,gk):=by rfl) (hN:Nat.blt d N=true:=by rfl) (hs:aE σ d=true:=by rfl):Der P ops W0 N Fin (⟨some d,.binOp .lss ty' x y ty2,ty,pos,after,g⟩ :: os) us pk fk σ:=eS (m:=m) (n:=n) (r:=false) h hx hy hm hn (congrArg some (decide_eq_false hr)) hg hN hs
end
theorem Jf {P:Program} {W0:bN} {N:Nat} {σ:Env} {Q:Exit→Act→World→Prop} {x:Code} (τ:Env) (h:ar P W0 N x τ Q) (hs:Eo [] σ τ τ:=by (repeat' (first|exact trivial|refine ⟨⟨?_,rfl⟩,?_⟩)) <;> rfl) (hn:nw ((tks τ).map (rn []))=true:=by rfl):ar P W0 N x σ Q:=fun a w hh=>h a w (hh.sub [] τ hs hn)
theorem wq {p q:Prop} (hq:q) (h:Beh q→p:=by intro h0;(repeat (first|(refine cy ?_;first|refine aV ?_|refine bY ?_|refine aY ?_|refine aZ ?_|refine aS ?_|refine bg ?_|refine bi ?_|refine ay ?_|refine be ?_)|(refine fo ?_;first|refine yJ ?_|refine bQ ?_|refine eZ ?_|refine cr ?_|refine b8 ?_)|(refine fa ?_;first|refine yv ?_|refine vu (h:=?_)|refine b9 ?_|refine cm ?_|refine bG ?_|refine cw ?_|refine ck ?_)|(refine fh ?_;first|refine yy ?_|refine cg ?_|refine eB ?_|refine bT ?_|refine bI ?_|refine cq ?_|refine bV ?_|refine bZ ?_)|(refine fe ?_;first|refine Hq ?_|refine GP ?_|refine HW ?_|refine fl ?_|refine eS ?_|refine cd ?_|refine bP ?_|refine fq ?_|refine bl ?_|refine bo ?_)|(refine cu ?_;first|refine aX ?_|refine ch ?_)|(refine ff ?_;first|refine cj ?_|refine ct ?_|refine ft ?_)|(refine cf ?_;first|refine jq ?_|refine rA ?_|refine ca ?_|refine bd ?_|refine aQ ?_|refine ba ?_|refine aU ?_|refine bh ?_|refine jO ?_)|(refine fc ?_;first|refine b7 ?_|refine eY ?_|refine bj ?_|refine aR ?_|refine bm ?_)|(refine aI ?_;first|refine au _ ?_|refine bf ?_|refine aA ?_|refine av ?_|refine ax ?_|refine t6 ?_|refine qj ?_|refine qY ?_)|(refine fu ?_;first|refine cb ?_|refine bH ?_|refine bX ?_)|(refine gOp ?_;first|refine fd ?_|refine fm ?_|refine bc ?_|refine fp ?_|refine fj ?_|refine bU ?_|refine aT ?_|refine co ?_|refine fw ?_|refine bM ?_|refine b6 ?_|refine bk ?_|refine az ?_|refine bW ?_|refine sNo ?_|refine dO ?_|refine aw ?_)|refine dZ ?_|refine cN ?_|refine fB ?_|refine bp ?_|refine cz ?_|refine bB ?_|refine fC ?_|refine fI ?_|refine fx ?_|refine df ?_|refine cC ?_|refine aN ?_|refine aB ?_|refine bq ?_|refine ci ?_|refine bC ?_|refine aBlkX ?_|refine cA ?_));exact h0.out):p:=h ⟨hq⟩
theorem vn {p q:Prop} (hq:q) (h:Beh q→p:=by intro h0;(repeat (first|(refine cy ?_;first|refine aV ?_|refine bY ?_|refine aY ?_|refine aZ ?_|refine aS ?_|refine bg ?_|refine bi ?_|refine ay ?_|refine be ?_)|(refine fo ?_;first|refine yJ ?_|refine bQ ?_|refine eZ ?_|refine cr ?_|refine b8 ?_)|(refine fa ?_;first|refine yv ?_|refine vu (h:=?_)|refine b9 ?_|refine cm ?_|refine bG ?_|refine cw ?_|refine ck ?_)|(refine fh ?_;first|refine yy ?_|refine cg ?_|refine eB ?_|refine bT ?_|refine bI ?_|refine cq ?_|refine bV ?_|refine bZ ?_)|(refine fe ?_;first|refine Hq ?_|refine GP ?_|refine HW ?_|refine fl ?_|refine eS ?_|refine cd ?_|refine bP ?_|refine fq ?_|refine bl ?_|refine bo ?_)|(refine cu ?_;first|refine aX ?_|refine ch ?_)|(refine ff ?_;first|refine cj ?_|refine ct ?_|refine ft ?_)|(refine cf ?_;first|refine jq ?_|refine rA ?_|refine ca ?_|refine bd ?_|refine aQ ?_|refine ba ?_|refine aU ?_|refine bh ?_|refine jO ?_)|(refine fc ?_;first|refine b7 ?_|refine eY ?_|refine bj ?_|refine aR ?_|refine bm ?_)|(refine aI ?_;first|refine au _ ?_|refine bf ?_|refine aA ?_|refine av ?_|refine ax ?_|refine t6 ?_|refine qj ?_|refine qY ?_)|(refine fu ?_;first|refine cb ?_|refine bH ?_|refine bX ?_)|(refine gOp ?_;first|refine fd ?_|refine fm ?_|refine bc ?_|refine fp ?_|refine fj ?_|refine bU ?_|refine aT ?_|refine co ?_|refine fw ?_|refine bM ?_|refine b6 ?_|refine bk ?_|refine az ?_|refine bW ?_|refine sNo ?_|refine dO ?_|refine aw ?_)));exact h0.out):p:=h ⟨hq⟩
end Go.Proofs.YtacafmejcdgboaaGreatDoor
namespace Go.Proofs.YtacafmejcdgboaaGreatDoor
open Go.RowKit
set_option linter.unusedVariables false
set_option linter.unusedSimpArgs false
theorem aC.upd3 {W0:bN} {N:Nat} {σ:Env} {a:Act} {w w':World} {c:Cx} (h:aC W0 N σ a w c) {i:Nat} {t u:Tk} {F' S':BS} (hi:aj σ i=some (.tk t)) (hg:Chg (c.T i) w w') (hF:∀b,c.F b→F' b) (hF':∀b,F' b→(c.F b∨c.T i b∨w.heap.size≤b)∧b<w'.heap.size) (hS':∀b,S' b→(c.T i b∨w.heap.size≤b)∧b<w'.heap.size∧¬F' b) (hu:eV c.F w w'→u.ok { c with F:=F' } w' (c.ρ i) S') :
 aC W0 N ((i,.tk u) :: σ) a w' { c with F:=F',T:=fun j=>if j=i then S' else c.T j }:=by
 obtain ⟨hAi,_,hti⟩:=h.tok i t hi
 have hag:=h.agF hg (fun b hb=>(hti b hb).1)
 have hle:c.Le { c with F:=F',T:=fun j=>if j=i then S' else c.T j }:=⟨hF,fun _ h=>⟨h,rfl⟩⟩
 have hle2:({ c with F:=F' }:Cx).Le { c with F:=F',T:=fun j=>if j=i then S' else c.T j }:=⟨fun _ h=>h,fun _ h=>⟨h,rfl⟩⟩
 have T1:(if i=i then S' else c.T i)=S':=if_pos rfl
 have T2:∀j,i≠j→(if j=i then S' else c.T j)=c.T j:=fun j hj=>if_neg (Ne.symm hj)
 refine ⟨h.ext' hg (fun b hb=>(hti b hb).2.2),fun b hb=>?_,fun b hb=>(hF' b hb).2,h.size,h.defers,fun j hj=>?_,fun j x hj=>?_,fun j k x y hj hk hne b=>?_,fun t' s ht'=>?_⟩
 ·rcases (hF' b hb).1 with h1|h1|h1
  ·exact h.old b h1
  ·exact .inr ((hti b h1).2.2)
  ·exact .inr (.inr (Nat.le_trans h.ext.size h1))
 ·rw [aa];split
  ·simp
  ·exact h.all j hj
 ·rw [aa] at hj
  by_cases e:i=j
  ·subst e
   rw [if_pos rfl] at hj;cases hj
   dsimp only
   rw [T1]
   refine ⟨hAi,Tk.keep hle2 (Nat.le_refl _) (fun _ _ _=>rfl) (fun _ _ _=>rfl) u _ (hu hag),fun b hb=>⟨(hS' b hb).2.2,(hS' b hb).2.1,?_⟩⟩
   rcases (hS' b hb).1 with h1|h1
   ·exact (hti b h1).2.2
   ·exact .inr (Nat.le_trans h.ext.size h1)
  ·rw [if_neg e] at hj
   obtain ⟨k1,k2,k3⟩:=h.tok j x hj
   dsimp only
   rw [T2 j e]
   refine ⟨k1,Tk.keep hle hg.size hag (fun b hb hl=>hg.block b hl (fun hs=>h.off i j t x hi hj e b hs hb)) x _ k2,fun b hb=>⟨fun hf=>?_,Nat.lt_of_lt_of_le (k3 b hb).2.1 hg.size,(k3 b hb).2.2⟩⟩
   rcases (hF' b hf).1 with h1|h1|h1
   ·exact (k3 b hb).1 h1
   ·exact h.off i j t x hi hj e b h1 hb
   ·have:=(k3 b hb).2.1;omega
 ·have key:∀j x,aj σ j=some (.tk x)→i≠j→∀b,S' b→¬c.T j b:=fun j x hj e b hb hT=>by
   rcases (hS' b hb).1 with h1|h1
   ·exact h.off i j t x hi hj e b h1 hT
   ·have:=((h.tok j x hj).2.2 b hT).2.1;omega
  rw [aa] at hj hk
  dsimp only
  by_cases e1:i=j
  ·subst e1
   rw [if_neg hne] at hk
   rw [T1,T2 k hne]
   exact key k y hk hne b
  ·rw [if_neg e1] at hj
   rw [T2 j e1]
   by_cases e2:i=k
   ·subst e2
    rw [T1]
    exact fun h1 h2=>key j x hj e1 b h2 h1
   ·rw [if_neg e2] at hk
    rw [T2 k e2]
    exact h.off j k x y hj hk hne b
 ·rw [aa] at ht'
  split at ht'
  ·cases ht'
  ·obtain ⟨x,h1,h2⟩:=h.tmp t' s ht'
   exact ⟨x,h1,Sy.keep hle hag s x h2⟩
theorem aC.slot {W0:bN} {N:Nat} {σ:Env} {a:Act} {w:World} {c:Cx} (h:aC W0 N σ a w c) {t:Nat} {s s':Sy} (ht:aj σ t=some (.sy s)) (hs:∀v,s.ok c w v→s'.ok c w v):aC W0 N ((t,.sy s') :: σ) a w c:=by
 have hne:∀i x,aj ((t,.sy s') :: σ) i=some (.tk x)→aj σ i=some (.tk x):=fun i x hi=>by
  rw [aa] at hi
  split at hi
  ·cases hi
  ·exact hi
 refine ⟨h.ext,h.old,h.lt,h.size,h.defers,fun i hi=>?_,fun i x hi=>h.tok i x (hne i x hi),fun i j x u hi hj=>h.off i j x u (hne i x hi) (hne j u hj),fun t' s0 ht'=>?_⟩
 ·rw [aa]
  split
  ·simp
  ·exact h.all i hi
 ·rw [aa] at ht'
  split at ht'
  ·rename_i e
   cases ht';subst e
   obtain ⟨v,h1,h2⟩:=h.tmp _ _ ht
   exact ⟨v,h1,hs v h2⟩
  ·exact h.tmp t' s0 ht'
abbrev WP:=World→BS→Value→BS→Prop
def frF (w w':World) (F S S':BS):BS:=fun b=>(F b∨S b∨w.heap.size≤b)∧¬S' b∧b<w'.heap.size
def vJ (w:World) (F S:BS) (v:Value) (p':WP) (w':World):Prop:=Chg S w w'∧∃S':BS,(∀b,S' b→(S b∨w.heap.size≤b)∧b<w'.heap.size)∧(Tk.abs p' none).ok (Cx.of (frF w w' F S S')) w' v S'
structure FnY (P:Program) (f:FuncId) (ds:List D) (p p':WP) (b:Bool):Prop where
 enter:∀args w,(callFunc f args).run P w=.ok (.enter f args) w
 calls:∀(F S:BS) (w:World) (v:Value) (vs:List Value),(Tk.abs p none).ok (Cx.of F) w v S→DVs w F ds vs→(∀b,F b→b<w.heap.size)→(∀b,S b→¬F b∧b<w.heap.size) →
  Calls P f (vs++[v]).toArray w fun en w'=>en=.returned (.bool b)∧vJ w F S v p' w'
theorem FnY.arg {P:Program} {f:FuncId} {ds ds':List D} {p p':WP} {b:Bool} (h:FnY P f ds p p' b) (ha:∀(w:World) (F:BS) (vs:List Value),DVs w F ds' vs→DVs w F ds vs):FnY P f ds' p p' b:=⟨h.enter,fun F S w v vs hp hv hF hS=>h.calls F S w v vs hp (ha w F vs hv) hF hS⟩
theorem aC.abs {W0:bN} {N:Nat} {σ:Env} {a:Act} {w w':World} {c:Cx} {p p':WP} {tag:Option Value} {i:Nat} (h:aC W0 N σ a w c) (hi:aj σ i=some (.tk (.abs p tag))) (hp:vJ w c.F (c.T i) (c.ρ i) p' w'):∃c',aC W0 N ((i,.tk (.abs p' tag)) :: σ) a w' c':=by
 obtain ⟨hA,⟨_,ht⟩,hti⟩:=h.tok i _ hi
 obtain ⟨hg,S',h1,h2,_⟩:=hp
 refine ⟨_,h.upd3 (F':=frF w w' c.F (c.T i) S') hi hg (fun b hb=>⟨.inl hb,fun hs=>?_,Nat.lt_of_lt_of_le (h.lt b hb) hg.size⟩) (fun b hb=>⟨hb.1,hb.2.2⟩) (fun b hb=>⟨(h1 b hb).1,(h1 b hb).2,fun hf=>hf.2.1 hb⟩) (fun _=>⟨h2,ht⟩)⟩
 rcases (h1 b hs).1 with h3|h3
 ·exact (hti b h3).1 hb
 ·exact absurd (h.lt b hb) (Nat.not_lt.2 h3)
def t8 (f:Nat) (q:WP):WP:=fun w F v S=>∃pv,v=.func (.func f) #[] #[pv]∧q w F pv S
def yV (z e:Nat) (ds:List D):WP:=fun w F v S=>∃(b:Nat) (u:Value) (S2:BS),v=.pointer (some ⟨b,0,none⟩)∧S b∧(∀c,S2 c→S c∧c≠b)∧dF w b [u]∧(Tk.row z e ds).ok (Cx.of F) w u S2
theorem CX {z e:Nat} {ds:List D} {c:Cx} {w:World} {v:Value} {S:BS} (h:yV z e ds w c.F v S):(Tk.abs (yV z e ds) none).ok c w v S:=by
 obtain ⟨b,u,S2,h1,h2,h3,h4,h5⟩:=h
 refine ⟨fun w' F' hF hsz hA hS=>⟨b,u,S2,h1,h2,h3,fun j x hj=>?_,?_⟩,fun u hu=>by cases hu⟩
 ·obtain ⟨k1,k2⟩:=h4 j x hj
  have hb:=hS b h2 (World.block_lt_of_cell? w ⟨b,j,none⟩ k1)
  exact ⟨(World.cell?_of_block hb).trans k1,(World.frozen?_of_block hb).trans k2⟩
 ·exact Tk.keep (c:=Cx.of c.F) (c':=Cx.of F') ⟨hF,fun i hi=>hi.elim⟩ hsz hA (fun b hb=>hS b (h3 b hb).1) _ _ h5
section
variable {P:Program} {ops:Array Oper} {W0:bN} {N:Nat} {Fin:Us→Env→Prop} {os:List Oper} {us:Us} {pk fk:List Nat} {σ:Env} {g:Option (Nat × Bool)} {gk:List Nat} {d ty ty' f:Nat} {pos:String} {after:Array Edge} {at':Array TypeId} {ds:List D} {p p' q q':WP} {tag:Option Value} {b:Bool} {i:Nat} {pv:Value}
theorem EG {x1 x2 x3 t:Operand} (h:Der P ops W0 N Fin os (us++[((d :: (gk++(i :: (kx t++kxs [x1,x2,x3]))))++pk,([d,i])++fk)]) [] [] ((d,.sy (.d (.b b))) :: (i,.tk (.abs p' tag)) :: σ)) (ht:ev σ t=some (.k i):=by rfl) (hi:aj σ i=some (.tk (.abs p tag)):=by rfl) (hr:evs σ [x1,x2,x3]=some ds:=by rfl) (hf:FnY P f ds p p' b:=by assumption) (hg:gst ops σ g=some (true,gk):=by rfl) (hN:Nat.blt d N=true:=by rfl) (hs:aE ((i,.tk (.abs p' tag)) :: σ) d=true:=by rfl) (hu:Nat.beq i d=false:=by rfl):Der P ops W0 N Fin (⟨some d,.call { callee:=.value (.func f),args:=[x1,x2,x3,t].toArray,argTypes:=at' },ty,pos,after,g⟩ :: os) us pk fk σ:=
 js (.d (.b b)) (i :: (kx t++kxs [x1,x2,x3])) [(i,.tk (.abs p' tag))] (fun σ' c a w hk hc=>by
  have hi':=(hk i (List.mem_cons_self ..)).trans hi
  obtain ⟨hA,hT,hti⟩:=hc.tok i _ hi'
  obtain ⟨_,hv⟩:=am hc (ab ht (fun κ hκ=>hk κ (List.mem_cons_of_mem _ (List.mem_append_left _ hκ))))
  unfold Oper.wp
  rw [bE hf.enter rfl]
  refine (hf.calls c.F (c.T i) w (a.eval t) ([x1,x2,x3].map a.eval) (by rw [hv];exact ⟨hT.1,fun u hu=>by cases hu⟩) (k7 hc [x1,x2,x3] ds hr (fun κ hκ=>hk κ (List.mem_cons_of_mem _ (List.mem_append_right _ hκ)))) hc.lt (fun b hb=>⟨(hti b hb).1,(hti b hb).2.1⟩)).mono ?_
  rintro en w' ⟨rfl,hp⟩
  rw [hv] at hp
  obtain ⟨c',hc'⟩:=hc.abs hi' hp
  exact ⟨_,c',rfl,hc',rfl⟩) h hg hN hs (by simp [hu])
theorem Fj {x1 x2 x3 t:Operand} {g0:Nat} (i:Nat) (hr:∀(σ':Env) (a:Act) (w:World) (c:Cx),aC W0 N σ' a w c→(∀κ∈kxs [x1,x2,x3],aj σ' κ=aj σ κ)→DVs w c.F ds ([x1,x2,x3].map a.eval)) (h:Der P ops W0 N Fin os (us++[((d :: (gk++(i :: (kx t++kxs [x1,x2,x3]))))++pk,([d,i])++fk)]) [] [] ((d,.sy (.d (.b b))) :: (i,.tk (.abs q' (some pv))) :: σ)) (ht:ev σ t=some (.v (.func (.func g0) #[] #[pv])):=by rfl) (hi:aj σ i=some (.tk (.abs q (some pv))):=by rfl) (hf:FnY P f ds (t8 g0 q) (t8 g0 q') b:=by assumption) (hg:gst ops σ g=some (true,gk):=by rfl) (hN:Nat.blt d N=true:=by rfl) (hs:aE ((i,.tk (.abs q' (some pv))) :: σ) d=true:=by rfl) (hu:Nat.beq i d=false:=by rfl):Der P ops W0 N Fin (⟨some d,.call { callee:=.value (.func f),args:=[x1,x2,x3,t].toArray,argTypes:=at' },ty,pos,after,g⟩ :: os) us pk fk σ:=
 js (.d (.b b)) (i :: (kx t++kxs [x1,x2,x3])) [(i,.tk (.abs q' (some pv)))] (fun σ' c a w hk hc=>by
  have hi':=(hk i (List.mem_cons_self ..)).trans hi
  obtain ⟨hA,hT,hti⟩:=hc.tok i _ hi'
  have hv:a.eval t=.func (.func g0) #[] #[pv]:=am hc (ab ht (fun κ hκ=>hk κ (List.mem_cons_of_mem _ (List.mem_append_left _ hκ))))
  have hpv:=hT.2 pv rfl
  unfold Oper.wp
  rw [bE hf.enter rfl]
  refine (hf.calls c.F (c.T i) w (a.eval t) ([x1,x2,x3].map a.eval) (by rw [hv];exact ⟨fun w' F' e1 e2 e3 e4=>⟨pv,rfl,by have:=hT.1 w' F' e1 e2 e3 e4;rw [hpv] at this;exact this⟩,fun u hu=>by cases hu⟩) (hr σ' a w c hc (fun κ hκ=>hk κ (List.mem_cons_of_mem _ (List.mem_append_right _ hκ)))) hc.lt (fun b hb=>⟨(hti b hb).1,(hti b hb).2.1⟩)).mono ?_
  rintro en w' ⟨rfl,hp⟩
  rw [hv] at hp
  obtain ⟨hp1,S',hp2,hp3⟩:=hp
  obtain ⟨c',hc'⟩:=hc.abs (p':=q') hi' ⟨hp1,S',hp2,fun w' F' e1 e2 e3 e4=>by
   obtain ⟨pv',e5,e6⟩:=hp3.1 w' F' e1 e2 e3 e4
   have e7 : #[pv] = #[pv']:=by injection e5
   have e8:pv=pv':=by simpa using e7
   rw [hpv,e8];exact e6,fun u hu=>by cases hu⟩
  exact ⟨_,c',rfl,hc',rfl⟩) h hg hN hs (by simp [hu])
theorem Ht {x t:Operand} {g0:Nat} (h:Der P ops W0 N Fin os (us++[((d :: (gk++(i :: (kx t++kxs [x]))))++pk,([d,i])++fk)]) [] [] ((d,.sy (.d (.b b))) :: (i,.tk (.abs (t8 g0 q') tag)) :: σ)) (hr:evs σ [x]=some ds) (hf:FnY P g0 ds q q' b) (ht:ev σ t=some (.k i):=by rfl) (hi:aj σ i=some (.tk (.abs (t8 g0 q) tag)):=by rfl) (hg:gst ops σ g=some (true,gk):=by rfl) (hN:Nat.blt d N=true:=by rfl) (hs:aE ((i,.tk (.abs (t8 g0 q') tag)) :: σ) d=true:=by rfl) (hu:Nat.beq i d=false:=by rfl):Der P ops W0 N Fin (⟨some d,.call { callee:=.value t,args:=[x].toArray,argTypes:=at' },ty,pos,after,g⟩ :: os) us pk fk σ:=
 js (.d (.b b)) (i :: (kx t++kxs [x])) [(i,.tk (.abs (t8 g0 q') tag))] (fun σ' c a w hk hc=>by
  have hi':=(hk i (List.mem_cons_self ..)).trans hi
  obtain ⟨hA,hT,hti⟩:=hc.tok i _ hi'
  obtain ⟨_,hv⟩:=am hc (ab ht (fun κ hκ=>hk κ (List.mem_cons_of_mem _ (List.mem_append_left _ hκ))))
  obtain ⟨pv,hv2,_⟩:=hT.1 w c.F (fun _ h=>h) (Nat.le_refl _) (fun _ _ _=>rfl) (fun _ _ _=>rfl)
  have key:∀{w':World} {F':BS} {S:BS} {q:WP},t8 g0 q w' F' (c.ρ i) S→q w' F' pv S:=fun hc=>by
   obtain ⟨pv',e1,e2⟩:=hc
   rw [hv2] at e1
   have e7 : #[pv] = #[pv']:=by injection e1
   have e8:pv=pv':=by simpa using e7
   rw [e8];exact e2
  unfold Oper.wp
  rw [lh hf.enter (cv:=[pv]) (by rw [hv,hv2])]
  refine (hf.calls c.F (c.T i) w pv ([x].map a.eval) ⟨fun w' F' e1 e2 e3 e4=>key (hT.1 w' F' e1 e2 e3 e4),fun u hu=>by cases hu⟩ (k7 hc [x] ds hr (fun κ hκ=>hk κ (List.mem_cons_of_mem _ (List.mem_append_right _ hκ)))) hc.lt (fun b hb=>⟨(hti b hb).1,(hti b hb).2.1⟩)).mono ?_
  rintro en w' ⟨rfl,hp1,S',hp2,hp3⟩
  obtain ⟨c',hc'⟩:=hc.abs (p':=t8 g0 q') hi' ⟨hp1,S',hp2,fun w' F' e1 e2 e3 e4=>⟨pv,hv2,hp3.1 w' F' e1 e2 e3 e4⟩,fun u hu=>by cases hu⟩
  exact ⟨_,c',rfl,hc',rfl⟩) h hg hN hs (by simp [hu])
theorem Hv {x:Operand} {g0:Nat} (h:Der P ops W0 N Fin os (us++[((d :: (gk++(i :: kx x)))++pk,([d])++fk)]) [] [] ((d,.sy (.v (.func (.func g0) #[] #[pv]))) :: σ)) (hx:ev σ x=some (.k i):=by rfl) (hi:aj σ i=some (.tk (.abs q (some pv))):=by rfl) (hg:gst ops σ g=some (true,gk):=by rfl) (hN:Nat.blt d N=true:=by rfl) (hs:aE σ d=true:=by rfl):Der P ops W0 N Fin (⟨some d,.makeFunc (.func g0) #[] [x].toArray,ty,pos,after,g⟩ :: os) us pk fk σ:=
 bO (.v (.func (.func g0) #[] #[pv])) (i :: kx x) (fun σ' c a w hk hc=>by
  have hi':=(hk i (List.mem_cons_self ..)).trans hi
  obtain ⟨hA,hT,hti⟩:=hc.tok i _ hi'
  obtain ⟨_,hv⟩:=am hc (ab hx (fun κ hκ=>hk κ (List.mem_cons_of_mem _ hκ)))
  have hpv:=hT.2 pv rfl
  refine ⟨.func (.func g0) #[] ([x].map a.eval).toArray,dt (X:=Instr.makeFunc (.func g0) (#[].map a.eval) ([x].toArray.map a.eval)) (by simp [Instr.makeFunc,go_sem]),?_⟩
  show Value.func (.func g0) #[] #[a.eval x]=_
  rw [hv,hpv]) h hg hN hs
theorem qq {x:Operand} {o:Nat} {cs:List Sy} {s:Sy} (h:Der P ops W0 N Fin os (us++[((d :: (gk++(i :: kx x)))++pk,([d])++fk)]) [] [] ((d,.sy s) :: σ)) (hx:ev σ x=some (.bx i o):=by rfl) (hi:aj σ i=some (.tk (.bxt cs pv)):=by rfl) (hc:cs[o]? = some s:=by rfl) (hA:isAgg? P ty'=some false:=by rfl) (hg:gst ops σ g=some (true,gk):=by rfl) (hN:Nat.blt d N=true:=by rfl) (hs:aE σ d=true:=by rfl):Der P ops W0 N Fin (⟨some d,.load ty' x,ty,pos,after,g⟩ :: os) us pk fk σ:=
 bO s (i :: kx x) (fun σ' c a w hk hh=>by
  obtain ⟨hAi,b,h1,h2⟩:=am hh (ab hx (fun κ hκ=>hk κ (by simp [hκ])))
  obtain ⟨_,⟨_,b',vs,h3,h4,h5,h6⟩,_⟩:=hh.tok i _ ((hk i (by simp)).trans hi)
  rw [h1] at h3;cases h3
  obtain ⟨v,h7,h8⟩:=p7 cs vs o s h5 hc
  exact ⟨v,dt (X:=Instr.loadAt ty' (a.eval x)) (by rw [h2];exact g7 hA (h6 o v h7).1),h8⟩) h hg hN hs
theorem C2 {x y:Operand} {j o:Nat} {cs:List Sy} (h:Der P ops W0 N Fin os (us++[((gk++(i :: ([j]++(kx x++kx y))))++pk,([i])++fk)]) [] [] ((i,.tk (.bxt (cs.set o (.k j)) pv)) :: σ)) (hx:ev σ x=some (.bx i o):=by rfl) (hi:aj σ i=some (.tk (.bxt cs pv)):=by rfl) (hy:ev σ y=some (.k j):=by rfl) (h1:pp σ (.k j)=true:=by rfl) (ho:Nat.blt o cs.length=true:=by rfl) (hz:sizeOf? P ty'=some 1:=by rfl) (hg:gst ops σ g=some (true,gk):=by rfl):Der P ops W0 N Fin (⟨none,.store ty' x y,ty,pos,after,g⟩ :: os) us pk fk σ:=
 kP (i :: ([j]++(kx x++kx y))) [(i,.tk (.bxt (cs.set o (.k j)) pv))] (fun σ' c a w hk hc=>by
  obtain ⟨hAi,b,e1,e2⟩:=am hc (ab hx (fun κ hκ=>hk κ (by simp [hκ])))
  have hi':=(hk i (by simp)).trans hi
  obtain ⟨_,⟨e0,b',vs,e3,e4,e5,e6⟩,hlt⟩:=hc.tok i _ hi'
  rw [e1] at e3;cases e3
  have hv:=am hc (ab hy (fun κ hκ=>hk κ (by simp [hκ])))
  have hone:(a.eval y).oneCell'=true:=mZ hc hv ((kF (fun κ hκ=>hk κ (by simp [kSy] at hκ;simp [hκ]))).trans h1)
  have hol:o<vs.length:=by rw [cY _ _ e5];exact Nat.blt_eq.mp ho
  obtain ⟨q4,q5⟩:=e6 o _ (List.getElem?_eq_getElem hol)
  unfold Oper.wp
  rw [fT hz hone q4 q5 e2 rfl]
  have hch:Chg (c.T i) w (w.setCell ⟨b,o,none⟩ (a.eval y)):=Chg.grown (bL b o _) (fun g hg=>by cases hg;exact e4)
  refine ⟨rfl,c,hc.upd hi' hch (by simp) (fun hag=>⟨e0,b,vs.set o (a.eval y),e1,e4,?_,e6.set o _⟩)⟩
  exact jN _ _ _ _ _ (Sy.keeps (Cx.Le.refl c) hag _ _ e5) (Sy.keep (Cx.Le.refl c) hag _ _ hv)) h hg
end
section
variable {P:Program} {W0:bN} {N:Nat} {σ:Env} {C:Code} {Q:Exit→Act→World→Prop} {i j t:Nat} {z e:Nat} {ds:List D} {u:Value} {cs:List Sy} {x:Exit}
theorem Jx (i:Nat) (h:∀u:Value,ar P W0 N C ((i,.tk (.bxt cs u)) :: σ) Q) (hi:aj σ i=some (.tk (.bx cs)):=by rfl):ar P W0 N C σ Q:=by
 intro a w ⟨c,hc⟩
 obtain ⟨hA,⟨b,us,h1,h2,h3,h4⟩,hti⟩:=hc.tok i _ hi
 exact h (c.ρ i) a w ⟨c,hc.upd2 hi Chg.rfl' (fun _=>⟨rfl,b,us,h1,h2,h3,h4⟩)⟩
theorem Holds.abs {a:Act} {w:World} (hh:Holds W0 N σ a w) (ht:aj σ t=some (.sy (.bx i 0))) (hi:aj σ i=some (.tk (.bxt [.k j] u))) (hj:aj σ j=some (.tk (.row z e ds))) (hne:(Nat.beq j i || Nat.beq i t || Nat.beq j t)=false):Holds W0 N ((t,.sy (.k i)) :: (i,.tk (.abs (yV z e ds) (some u))) :: (j,.no) :: σ) a w:=by
 simp only [Bool.or_eq_false_iff] at hne
 obtain ⟨⟨n1,n2⟩,n3⟩:=hne
 have n1:j≠i:=fun h=>by rw [h] at n1;simp at n1
 have n2:i≠t:=fun h=>by rw [h] at n2;simp at n2
 have n3:j≠t:=fun h=>by rw [h] at n3;simp at n3
 obtain ⟨c,hc⟩:=hh
 obtain ⟨hA,⟨h0,b,us,h1,h2,⟨y,t0,e1,⟨hAj,e2⟩,e3⟩,h4⟩,hti⟩:=hc.tok i _ hi
 cases (show t0 = [] from e3)
 obtain ⟨_,hTj,htj⟩:=hc.tok j _ hj
 have hS:(Tk.abs (yV z e ds) (some u)).ok c w (c.ρ i) (fun b=>c.T i b∨∃κ,κ∈[j]∧c.T κ b):=by
  have:=CX (c:=c) (z:=z) (e:=e) (ds:=ds) (w:=w) (v:=c.ρ i) (S:=fun b=>c.T i b∨∃κ,κ∈[j]∧c.T κ b) ⟨b,c.ρ j,c.T j,h1,.inl h2,fun b' hb'=>⟨.inr ⟨j,by simp,hb'⟩,fun eb=>hc.off i j _ _ hi hj (Ne.symm n1) b h2 (eb ▸ hb')⟩,by rw [e1,e2] at h4;exact h4,A4 hTj⟩
  exact ⟨this.1,fun u' hu'=>by cases hu';exact h0⟩
 have h5:=hc.eatM [j] hi (fun κ hκ=>by rw [List.mem_singleton.1 hκ];exact ⟨n1,_,hj⟩) Chg.rfl' (fun _=>hS)
 refine ⟨_,h5.slot (s:=.bx i 0) ?_ (fun v hv=>?_)⟩
 ·rw [List.cons_append,aa,if_neg n2,List.map_cons,List.cons_append,aa,if_neg n3];exact ht
 ·obtain ⟨q1,b',q2,q3⟩:=hv
  exact ⟨q1,by rw [q3];exact q2.symm⟩
theorem Jw (t i j:Nat) (h:ar P W0 N C ((t,.sy (.k i)) :: (i,.tk (.abs (yV z e ds) (some u))) :: (j,.no) :: σ) Q) (ht:aj σ t=some (.sy (.bx i 0)):=by rfl) (hi:aj σ i=some (.tk (.bxt [.k j] u)):=by rfl) (hj:aj σ j=some (.tk (.row z e ds)):=by rfl) (hne:(Nat.beq j i || Nat.beq i t || Nat.beq j t)=false:=by rfl):ar P W0 N C σ Q:=fun a w hh=>h a w (hh.abs ht hi hj hne)
theorem JK (t i j:Nat) (h:At W0 N ((t,.sy (.k i)) :: (i,.tk (.abs (yV z e ds) (some u))) :: (j,.no) :: σ) x Q) (ht:aj σ t=some (.sy (.bx i 0)):=by rfl) (hi:aj σ i=some (.tk (.bxt [.k j] u)):=by rfl) (hj:aj σ j=some (.tk (.row z e ds)):=by rfl) (hne:(Nat.beq j i || Nat.beq i t || Nat.beq j t)=false:=by rfl):At W0 N σ x Q:=fun a w hh=>h a w (hh.abs ht hi hj hne)
theorem Ev (t i j:Nat) (h:ar P W0 N C ((t,.sy (.bx i 0)) :: (i,.tk (.bxt [.k j] u)) :: (j,.tk (.row z e ds)) :: σ) Q) (ht:aj σ t=some (.sy (.k i)):=by rfl) (hi:aj σ i=some (.tk (.abs (yV z e ds) (some u))):=by rfl) (hj:aj σ j=none:=by rfl) (hne:(Nat.beq j i || Nat.beq i t || Nat.beq j t)=false:=by rfl):ar P W0 N C σ Q:=by
 simp only [Bool.or_eq_false_iff] at hne
 obtain ⟨⟨n1,n2⟩,n3⟩:=hne
 have n1:j≠i:=fun h=>by rw [h] at n1;simp at n1
 have n2:i≠t:=fun h=>by rw [h] at n2;simp at n2
 have n3:j≠t:=fun h=>by rw [h] at n3;simp at n3
 intro a w ⟨c,hc⟩
 obtain ⟨hA,hT,hti⟩:=hc.tok i _ hi
 obtain ⟨b,v,S2,h1,h2,h3,h4,h5⟩:=hT.1 w c.F (fun _ h=>h) (Nat.le_refl _) (fun _ _ _=>rfl) (fun _ _ _=>rfl)
 have hu:=hT.2 u rfl
 have k1:=hc.upd3 (F':=c.F) (S':=fun b'=>b'=b) (u:=.bx [.v v]) hi Chg.rfl' (fun _ h=>h) (fun b' hb'=>⟨.inl hb',hc.lt b' hb'⟩) (fun b' hb'=>by subst hb';exact ⟨.inl h2,(hti _ h2).2.1,(hti _ h2).1⟩) (fun _=>⟨b,[v],h1,rfl,⟨v,[],rfl,rfl,rfl⟩,h4⟩)
 have k2:=k1.new (i:=j) (t:=.row z e ds) (v:=v) (S:=S2) (by rw [aa,if_neg (Ne.symm n1)];exact hj) (qC h5) (fun b' hb'=>⟨(hti b' (h3 b' hb').1).1,(hti b' (h3 b' hb').1).2.1,(hti b' (h3 b' hb').1).2.2⟩) (fun k x hk b' hb' hTk=>by
  rw [aa] at hk
  split at hk
  ·rename_i ek
   subst ek
   have hTk':(if i=i then (fun b'=>b'=b) else c.T i) b':=hTk
   rw [if_pos rfl] at hTk'
   exact (h3 b' hb').2 hTk'
  ·rename_i ek
   have hTk':(if k=i then (fun b'=>b'=b) else c.T k) b':=hTk
   rw [if_neg (Ne.symm ek)] at hTk'
   exact hc.off i k _ _ hi hk ek b' (h3 b' hb').1 hTk')
 have hi2:aj ((j,In.tk (.row z e ds)) :: (i,.tk (.bx [.v v])) :: σ) i=some (.tk (.bx [.v v])):=by rw [aa,if_neg n1,aa,if_pos rfl]
 obtain ⟨hAj,_,_⟩:=k2.tok j _ (by rw [aa,if_pos rfl])
 obtain ⟨_,⟨b2,us2,m1,m2,⟨y2,t2,m3,m4,m5⟩,m6⟩,_⟩:=k2.tok i _ hi2
 cases (show t2 = [] from m5)
 have hρj:(Cx.add { c with F:=c.F,T:=fun k=>if k=i then (fun b'=>b'=b) else c.T k } j v S2).ρ j=v:=if_pos rfl
 have hρi:(Cx.add { c with F:=c.F,T:=fun k=>if k=i then (fun b'=>b'=b) else c.T k } j v S2).ρ i=c.ρ i:=if_neg (Ne.symm n1)
 have k3:=k2.upd2 (u:=.bxt [.k j] u) hi2 Chg.rfl' (fun _=>⟨hρi.trans hu,b2,us2,m1,m2,⟨y2,[],m3,⟨hAj,by rw [hρj];exact m4⟩,rfl⟩,m6⟩)
 have k4:=k3.slot (t:=t) (s:=.k i) (s':=.bx i 0) (by rw [aa,if_neg n2,aa,if_neg n3,aa,if_neg n2];exact ht) (fun v' hv'=>⟨hv'.1,b,hρi.trans h1,hv'.2.trans (hρi.trans h1)⟩)
 refine h a w (Holds.congr ⟨_,k4⟩ (fun κ=>?_))
 simp only [aa]
 by_cases e1:t=κ
 ·simp [e1]
 by_cases e2:i=κ
 ·simp [e1,e2]
 by_cases e3:j=κ
 ·simp [e1,e2,e3]
 ·simp [e1,e2,e3]
end
def F8 (ds:List D) (p:WP) (v:Value):Env:=EA 0 ds++[(ds.length,.sy (.k 20000)),(20000,.tk (.abs p (some v)))]
def EK (W0:bN) (v:Value) (p':WP) (b:Bool):Ending→World→Prop:=fun e w'=>e=.returned (.bool b)∧vJ W0.w W0.F W0.M v p' w'
theorem Gs {P:Program} {W0:bN} {N:Nat} {σ:Env} {fn:Func} {rs:List ResultVar} {v:Value} {p':WP} {b:Bool} (hr:fn.results=rs.toArray:=by rfl) (hd:B9 P σ rs=some [.b b]:=by rfl) (ht:aj σ 20000=some (.tk (.abs p' (some v))):=by rfl):At W0 N σ .ret (bodyPost P fn (EK W0 v p' b)):=fun a w hh=>by
 obtain ⟨c,h⟩:=hh
 obtain ⟨vs,h1,u,t,rfl,h2,h3⟩:=o8 h rs _ hd
 have:t = []:=h3
 subst this
 have h2':u=.bool b:=(List.cons.inj (show [u] = [Value.bool b] from h2)).1
 obtain ⟨hA,⟨hT,htag⟩,hti⟩:=h.tok _ _ ht
 have hv:=htag v rfl
 rw [hv] at hT
 refine bodyPost_ret (v:=u) ?_ h.defers ⟨by rw [h2'],h.ext,c.T 20000,fun b' hb'=>⟨(hti b' hb').2.2,(hti b' hb').2.1⟩,fun w2 F2 e1 e2 e3 e4=>?_,fun u hu=>by cases hu⟩
 ·rw [gS,hr,Array.mapM_eq_mapM_toList,show rs.toArray.toList=rs from rfl]
  simp only [Sem.run_bind,Sem.run_map,h1]
  simp [Result.andThen]
 ·have sub:∀b',c.F b'→frF W0.w w W0.F W0.M (c.T 20000) b':=fun b' hb'=>⟨h.old b' hb',fun hs=>(hti b' hs).1 hb',h.lt b' hb'⟩
  exact hT w2 F2 (fun b' hb'=>e1 b' (sub b' hb')) e2 (fun b' hb' hl=>e3 b' (sub b' hb') hl) e4
theorem zh {P:Program} {f:FuncId} {ds:List D} {p:WP} {fn:Func} {c:Code} {N:Nat} {Post:bN→Value→Ending→World→Prop} (hf:P.funcs[f]? = some fn) (h:WfL ds→∀(W0:bN) (v:Value),ar P W0 N c (F8 ds p v) (bodyPost P fn (Post W0 v))) (hb:fn.body=some c) (hN:fn.ntmps=N) (hl:Nat.blt ds.length N=true) (hl2:Nat.blt ds.length 20000=true) (F S:BS) (w:World) (v:Value) (vs:List Value) (hp:(Tk.abs p none).ok (Cx.of F) w v S) (hv:DVs w F ds vs) (hF:∀b,F b→b<w.heap.size) (hS:∀b,S b→¬F b∧b<w.heap.size):Calls P f (vs++[v]).toArray w (Post ⟨w,F,S⟩ v):=by
 have hl':=Nat.blt_eq.mp hl
 have hl2':=Nat.blt_eq.mp hl2
 obtain ⟨hvl,hva⟩:=xe ds vs hv
 have lk:∀j i,aj (F8 ds p v) j=some i→(∃r,i=.sy (dsy r)∧ds[j]? = some r)∨(j=ds.length∧i=.sy (.k 20000))∨(j=20000∧i=.tk (.abs p (some v))):=fun j i hj=>by
  unfold F8 at hj
  rw [eK] at hj
  cases hl3:aj (EA 0 ds) j with
  | some x=>
   rw [hl3] at hj
   obtain ⟨r,h1,h2,h3⟩:=ip ds 0 j x hl3
   cases (show x=i from Option.some.inj hj)
   exact .inl ⟨r,h1,h3⟩
  | none=>
   rw [hl3] at hj
   have hj':aj [(ds.length,In.sy (.k 20000)),(20000,.tk (.abs p (some v)))] j=some i:=hj
   rw [aa,aa] at hj'
   split at hj'
   ·rename_i e;cases hj';exact .inr (.inl ⟨e.symm,rfl⟩)
   ·split at hj'
    ·rename_i e;cases hj';exact .inr (.inr ⟨e.symm,rfl⟩)
    ·cases hj'
 have key:∀(i:Nat) (t:Tk),aj (F8 ds p v) i=some (.tk t)→i=20000∧t=.abs p (some v):=fun i t hi=>by
  rcases lk i _ hi with ⟨r,h1,_⟩|⟨_,h1⟩|⟨h1,h2⟩
  ·cases r <;> cases h1
  ·cases h1
  ·cases h2;exact ⟨h1,rfl⟩
 have look20:aj (F8 ds p v) 20000≠none:=fun e=>by
  unfold F8 at e
  rw [eK] at e
  cases hl3:aj (EA 0 ds) 20000 with
  | some x=>rw [hl3] at e;cases e
  | none=>
   rw [hl3] at e
   have e':aj [(ds.length,In.sy (.k 20000)),(20000,.tk (.abs p (some v)))] 20000=none:=e
   rw [aa,if_neg (by omega),aa,if_pos rfl] at e'
   cases e'
 refine calls_of_wp hf hb (h hv.wf ⟨w,F,S⟩ v _ w ⟨⟨F,fun _=>v,fun _=>S,fun i=>i=20000⟩,Chg.rfl',fun b hb=>.inl hb,hF,?_,rfl,fun i hi=>by rw [show i=20000 from hi];exact look20,fun i t ht=>?_,fun i j t u hi hj hne=>absurd ((key i t hi).1.trans (key j u hj).1.symm) hne,fun t s ht=>?_⟩)
 ·simp [hN,hvl];omega
 ·obtain ⟨rfl,rfl⟩:=key i t ht
  exact ⟨rfl,⟨hp.1,fun u hu=>by cases hu;rfl⟩,fun b hb=>⟨(hS b hb).1,(hS b hb).2,.inl hb⟩⟩
 ·rcases lk t _ ht with ⟨r,h1,h2⟩|⟨h1,h2⟩|⟨h1,h2⟩
  ·cases h1
   obtain ⟨u,k1,k2⟩:=hva t r h2
   have ht':t<vs.length:=(List.getElem?_eq_some_iff.1 k1).1
   refine ⟨u,?_,?_⟩
   ·rw [Array.getElem?_append_left (by simp;omega)]
    simp [List.getElem?_append_left ht',k1]
   ·exact Ar k2
  ·cases h2
   subst h1
   refine ⟨v,?_,rfl,rfl⟩
   rw [Array.getElem?_append_left (by simp;omega)]
   simp [List.getElem?_append_right,hvl]
  ·cases h2
theorem AY {P : Program} {f : FuncId} {fn : Func} {c : Code} (hf : P.funcs[f]? = some fn) (hb : fn.body = some c) (hnm : (fn.name == "runtime.NumGoroutine") = false) (args : Array Value) (w : World) : (callFunc f args).run P w = .ok (.enter f args) w := by
 unfold callFunc
 simp only [Sem.run_bind,show (program).run P w=.ok P w from rfl,Result.andThen_ok,hf,hnm,hb]
 rfl
theorem BH {P : Program} {f : FuncId} {ds : List D} {p p' : WP} {b : Bool} {fn : Func} {c : Code} {N : Nat} (hf : P.funcs[f]? = some fn) (h : WfL ds → ∀ (W0 : bN) (v : Value), ar P W0 N c (F8 ds p v) (bodyPost P fn (EK W0 v p' b))) (hb : fn.body = some c := by rfl) (hN : fn.ntmps = N := by rfl) (hl : Nat.blt ds.length N = true := by rfl) (hl2 : Nat.blt ds.length 20000 = true := by rfl) (hnm : (fn.name == "runtime.NumGoroutine") = false := by kernel_rfl) : FnY P f ds p p' b :=
 ⟨AY hf hb hnm,fun F S w v vs hp hv hF hS=>zh (Post:=fun W0 v=>EK W0 v p' b) hf h hb hN hl hl2 F S w v vs hp hv hF hS⟩
theorem CW {w:World} {S:BS} {sh ds es rs:List D} {vs:List Value} (hn:tP sh ds=some (es,[])) (h:DVs w S (.t ds :: rs) vs):DVs w S (.t es :: rs) vs:=by
 obtain ⟨v,t,h1,⟨cs,h2,h3⟩,h4⟩:=h
 obtain ⟨us,xs,e1,e2,e3⟩:=qx sh ds es [] cs hn h3
 cases (show xs = [] from e3)
 rw [List.append_nil] at e1
 exact ⟨v,t,h1,⟨us,by rw [h2,e1],e2⟩,h4⟩
theorem FnD.nest {P:Program} {f:FuncId} {xs:List D} (sh ds:List D) {es rs:List D} (h:FnD P f xs (.tp (.t ds :: rs))) (hn:tP sh ds=some (es,[]):=by rfl):FnD P f xs (.tp (.t es :: rs)):=⟨h.enter,fun F w vs hv hF=>(h.calls F w vs hv hF).mono fun e w' ⟨v,h1,h2,us,h3,h4⟩=>⟨v,h1,h2,us,h3,CW hn h4⟩⟩
theorem dO {P:Program} {ops:Array Oper} {W0:bN} {N:Nat} {Fin:Us→Env→Prop} {os:List Oper} {us:Us} {pk fk:List Nat} {σ:Env} {d ty:Nat} {pos:String} {after:Array Edge} {op:Op} {j d':Nat} {want:Bool} (h:Der P ops W0 N Fin os (us++[((d :: [d'])++pk,([d])++fk)]) [] [] ((d,.sy (.v undef)) :: σ)) (hj:(ops[j]?).bind (·.dst)=some d':=by rfl) (hu:aj σ d'=some (.sy (.v undef)):=by rfl) (hN:Nat.blt d N=true:=by rfl) (hs:aE σ d=true:=by rfl):Der P ops W0 N Fin (⟨some d,op,ty,pos,after,some (j,want)⟩ :: os) us pk fk σ:=by
 refine ⟨d :: [d'],[(d,.sy (.v undef))],fun σ' a w hk hh=>.inr ⟨?_,?_⟩,h⟩
 ·obtain ⟨c,hc⟩:=hh
  obtain ⟨v,h1,h2⟩:=hc.tmp d' _ ((hk d' (by simp)).trans hu)
  have:v=undef:=h2
  subst this
  show (yielded ops a.tmps j == some want)=false
  unfold yielded
  rw [hj]
  simp only [Option.bind_some,h1]
  rfl
 ·obtain ⟨c,hc⟩:=hh
  exact ⟨c,hc.put (Nat.blt_eq.mp hN) rfl (by rw [hk d (by simp)];exact iR hs)⟩
structure Jh (P:Program) (f:FuncId):Prop where
 enter:∀args w,(callFunc f args).run P w=.ok (.enter f args) w
 calls:∀(a:Option Addr) (n k:Nat) (w:World),n≤k→k≤maxLen→Calls P f #[.slice a n k] w fun en w'=>en=.returned (.slice a n n)∧w'=w
section
variable {P:Program} {ops:Array Oper} {W0:bN} {N:Nat} {Fin:Us→Env→Prop} {os:List Oper} {us:Us} {pk fk:List Nat} {σ:Env} {g:Option (Nat × Bool)} {gk:List Nat} {d ty ty' f:Nat} {pos:String} {after:Array Edge} {at':Array TypeId} {x y:Operand} {z e n:Nat} {xs ys:List D} {ti:TypeInfo}
theorem Hw (hf:Jh P f) (h:Der P ops W0 N Fin os (us++[((d :: (gk++kx x))++pk,([d])++fk)]) [] [] ((d,.sy (.cl z xs)) :: σ)) (hx:ev σ x=some (.d (.l z xs)):=by rfl) (hg:gst ops σ g=some (true,gk):=by rfl) (hN:Nat.blt d N=true:=by rfl) (hs:aE σ d=true:=by rfl):Der P ops W0 N Fin (⟨some d,.call { callee:=.value (.func f),args:=[x].toArray,argTypes:=at' },ty,pos,after,g⟩ :: os) us pk fk σ:=
 js (.cl z xs) (kx x) [] (fun σ' c a w hk hc=>by
  obtain ⟨ad,k,h1,h2,h3,h4,h5⟩:=am hc (ab hx hk)
  have h1':a.eval x=.slice ad xs.length k:=by simpa using h1
  unfold Oper.wp
  rw [bE hf.enter rfl]
  show Calls P f (#[a.eval x]) w _
  rw [h1']
  refine (hf.calls ad xs.length k w h2 h3).mono ?_
  rintro en w' ⟨rfl,rfl⟩
  refine ⟨_,c,rfl,hc,⟨ad,xs.length,rfl,Nat.le_refl _,Nat.le_trans h2 h3,fun h=>?_,h5⟩,ad,rfl⟩
  have:=h4 h
  omega) h hg hN hs rfl
theorem bm {z0:Value} (h:Der P ops W0 N Fin os (us++[((d :: (gk++((10000+d) :: (kx x++kx y))))++pk,([d,10000+d])++fk)]) [] [] ((d,.sy (.k (10000+d))) :: (10000+d,.tk (.row n e (xs++ys))) :: σ)) (hx:ev σ x=some (.cl n xs):=by rfl) (hy:ev σ y=some (.d (.l n ys)):=by rfl) (hf:aj σ (10000+d)=none:=by rfl) (he:elem? P ty'=some e:=by rfl) (hti:P.info? e=some ti:=by rfl) (htz:ti.zero=some z0:=by rfl) (hsz:ti.size=n:=by rfl) (hzs:z0.cells.size=n:=by rfl) (hn:(Nat.blt 0 n && Nat.ble ti.bytes 1000)=true:=by rfl) (hb:xs.length+ys.length≤1000000:=by first|omega|(simp only [List.length_map,List.length_cons,List.length_nil,List.length_append,List.length_take,List.length_drop];omega)) (hy0:0<ys.length:=by first|exact Nat.succ_pos _|omega) (hg:gst ops σ g=some (true,gk):=by rfl) (hN:Nat.blt d N=true:=by rfl) (hs:aE ((10000+d,.tk (.row n e (xs++ys))) :: σ) d=true:=by rfl) (hu:Nat.beq (10000+d) d=false:=by rfl):Der P ops W0 N Fin (⟨some d,.call { callee:=.builtin .append,args:=#[x,y],argTypes:=#[ty',ty'] },ty,pos,after,g⟩ :: os) us pk fk σ:=by
 refine js (.k (10000+d)) ((10000+d) :: (kx x++kx y)) [(10000+d,.tk (.row n e (xs++ys)))] (fun σ' c a w hk hc=>?_) h hg hN hs (by simp [hu])
 obtain ⟨hxv,ao,hxa⟩:=am hc (ab hx (fun κ hκ=>hk κ (by simp [hκ])))
 have hyv:=am hc (ab hy (fun κ hκ=>hk κ (by simp [hκ])))
 have hf':aj σ' (10000+d)=none:=(hk _ (by simp)).trans hf
 have fin:∀v' w',(Builtin.append_ #[ty',ty'] ty #[a.eval x,a.eval y]).run P w=.ok v' w'→(execOp a.eval ⟨some d,.call { callee:=.builtin .append,args:=#[x,y],argTypes:=#[ty',ty'] },ty,pos,after,g⟩).run P w=.ok (.value v') w':=fun v' w' hr=>by
  generalize a.eval=ρ at *
  simp [execOp,resolve,invoke,builtin,hr,Result.andThen]
 unfold Oper.wp
 by_cases hx0:xs = []
 ·subst hx0
  obtain ⟨v',w',c',r1,r2,r3⟩:=hc.app0 (P:=P) (ty:=ty) he hti htz hsz hzs hn ao hyv (by simp at hb;exact hb) (id:=10000+d) hf'
  rw [fin v' w' (by rw [hxa];exact r1)]
  exact ⟨v',c',rfl,r2,r3⟩
 rw [Bool.and_eq_true] at hn
 have hn0:0<n:=Nat.blt_eq.mp hn.1
 obtain ⟨ad,k,h1,h2,h3,h4,h5⟩:=hxv
 have h1':a.eval x=.slice ad xs.length k:=by simpa using h1
 rw [hxa] at h1'
 have e1:=Value.slice.inj h1'
 rcases h5 with h5|⟨b,o,e2,hFb,hR⟩
 ·exact absurd h5 hx0
 obtain ⟨olds,o1,o2,o3,o4⟩:=RpR.news xs o hR
 obtain ⟨ad2,k2,hyv1,hk1,hk2,hk3,hk4⟩:=hyv
 have hyv':a.eval y=.slice ad2 ys.length k2:=by simpa using hyv1
 rcases hk4 with hk4|⟨b2,o2',rfl,_,hR2⟩
 ·rw [hk4] at hy0;exact absurd hy0 (Nat.lt_irrefl _)
 obtain ⟨news,n1,n2,n3,n4⟩:=RpR.news ys o2' hR2
 have hadd:∀(b o j:Nat),((⟨b,o,none⟩:Addr).add j)=⟨b,o+j,none⟩:=fun b o j=>by cases j <;> simp [Addr.add]
 have hmb:(xs.length+ys.length) * ti.bytes≤140737488355328:=by
  have:(xs.length+ys.length) * ti.bytes≤1000000 * 1000:=Nat.mul_le_mul hb (Nat.le_of_ble_eq_true hn.2)
  omega
 obtain ⟨v',w',r1,r2,r3⟩:=run_append_arg_grows (P:=P) w ty' ty e ti z0 n ti.bytes (dz he) hti htz hsz rfl hzs hn0 ⟨b,o,none⟩ xs.length xs.length olds o1 (fun j u hj=>by rw [hadd];exact o2 j u hj) ⟨b2,o2',none⟩ ys.length k2 news n1 (fun j u hj=>by rw [hadd];exact n2 j u hj) (by omega) (by unfold maxLen;omega) hmb
 rw [fin v' w' (by rw [hxa,e1.1,e2,hyv'];exact r1)]
 have hX:Ext w w':=⟨r3.os,r3.tape,r3.output,r3.size,fun j hj=>r3.block j hj (by simp)⟩
 have hc1:=hc.grow hX c.F (fun _ h=>h) (fun _ h=>.inl h) (fun b hb=>Nat.lt_of_lt_of_le (hc.lt b hb) (Below.size hX))
 have hge:∀b,v'.ownBlock=some b→w.heap.size≤b∧b<w'.heap.size:=fun b hb=>by
  rcases r2.2 with ⟨h6,h7⟩|⟨g',cap,cur,h6,h7,h8,_⟩
  ·omega
  ·rw [h6] at hb;cases hb;exact ⟨h7,(Array.getElem?_eq_some_iff.1 h8).1⟩
 refine ⟨v',_,rfl,hc1.new (i:=10000+d) (t:=.row n e (xs++ys)) (v:=v') (S:=fun b=>v'.ownBlock=some b) hf' (.inr ⟨olds++news,by rw [List.length_append];exact r2.mono (Nat.zero_le _),fun g hg=>hg,fun j hj=>?_⟩) (fun b hb=>⟨fun hF=>?_,(hge b hb).2,.inr (Nat.le_trans hc.ext.size (hge b hb).1)⟩) (fun j u hj b hb hT=>?_),.inr rfl,(if_pos rfl).symm⟩
 ·by_cases hjx:j<xs.length
  ·obtain ⟨cs,q1,q2,q3⟩:=o4 j hjx
   refine ⟨cs,q1,?_,fun t u ht=>?_⟩
   ·rw [List.getElem_append_left hjx]
    exact Rp.keep (fun _ h=>h) (fun b _ hl=>hX.block b hl) _ _ q2
   ·have h9:=q3 t u ht
    rw [List.getElem?_append_left (List.getElem?_eq_some_iff.1 h9).1];exact h9
  ·have hjy:j - xs.length<ys.length:=by rw [List.length_append] at hj;omega
   obtain ⟨cs,q1,q2,q3⟩:=n4 (j - xs.length) hjy
   refine ⟨cs,q1,?_,fun t u ht=>?_⟩
   ·rw [List.getElem_append_right (by omega)]
    exact Rp.keep (fun _ h=>h) (fun b _ hl=>hX.block b hl) _ _ q2
   ·have h9:=q3 t u ht
    have hj2:j * n+t=olds.length+((j - xs.length) * n+t):=by
     rw [o1]
     have:j=xs.length+(j - xs.length):=by omega
     rw [this,Nat.add_mul]
     simp only [Nat.add_sub_cancel_left]
     omega
    rw [hj2,List.getElem?_append_right (by omega),Nat.add_sub_cancel_left];exact h9
 ·exact absurd (hc.lt b hF) (Nat.not_lt.2 (hge b hb).1)
 ·exact absurd ((hc.tok j u hj).2.2 b hT).2.1 (Nat.not_lt.2 (hge b hb).1)
end
end Go.Proofs.YtacafmejcdgboaaGreatDoor
