/-
  Proved facts that the law leans on.
-/
import Derived.Test.YtclpbhoekmecjaaGreatDoorZP8
import Derived.Shelf.Sort.Plain
import Derived.Ground.Names2Prog
import Derived.Shelf.Slices.CompactI
import Derived.Shelf.Slices.CompactS
import Derived.Shelf.Slices.In.SortNone
import Derived.Ground.SlgnProg
import Derived.Shelf.SlicesE.Equal
import Derived.Shelf.SlicesE.Compact
import Derived.Ground.SlgfProg
import Derived.Shelf.SlicesE.IndexFunc
import Derived.Shelf.SlicesE.DeleteFunc
import Derived.Lib.RowBridge
import Derived.ArgAppend
import Derived.Deep.Onto
import Derived.Shelf.GgSortFunc.RowK
namespace Go.Proofs
open Go.Shelf
def Tryz.lays189_ren : Go.Shelf.Ren := ⟨fun | 189 => 215 | 125 => 220 | 257 => 241 | 128 => 252 | 129 => 253 | 294 => 274 | 295 => 275 | 296 => 276 | 297 => 277 | 298 => 278 | 299 => 279 | 216 => 280 | 300 => 281 | 301 => 282 | 328 => 308 | 329 => 285 | 330 => 286 | 331 => 309 | 332 => 310 | 215 => 311 | 343 => 328 | n => n, fun | 28 => 25 | 3 => 3 | 46 => 216 | 0 => 0 | 51 => 230 | 53 => 233 | 4 => 4 | 183 => 240 | 182 => 239 | 131 => 188 | 5 => 5 | 9 => 9 | 218 => 269 | 222 => 273 | 228 => 295 | 229 => 296 | n => n, fun | n => n⟩
theorem Tryz.lays189 : Go.Proofs.Lays.n189 Tryz.prog Tryz.lays189_ren := {
  mixed := by kernel_rfl
  f125 := Tryz.func220.trans (congrArg some (by kernel_rfl))
  f128 := Tryz.func252.trans (congrArg some (by kernel_rfl))
  f129 := Tryz.func253.trans (congrArg some (by kernel_rfl))
  f189 := Tryz.func215.trans (congrArg some (by kernel_rfl))
  f215 := Tryz.func311.trans (congrArg some (by kernel_rfl))
  f216 := Tryz.func280.trans (congrArg some (by kernel_rfl))
  f257 := Tryz.func241.trans (congrArg some (by kernel_rfl))
  f294 := Tryz.func274.trans (congrArg some (by kernel_rfl))
  f295 := Tryz.func275.trans (congrArg some (by kernel_rfl))
  f296 := Tryz.func276.trans (congrArg some (by kernel_rfl))
  f297 := Tryz.func277.trans (congrArg some (by kernel_rfl))
  f298 := Tryz.func278.trans (congrArg some (by kernel_rfl))
  f299 := Tryz.func279.trans (congrArg some (by kernel_rfl))
  f300 := Tryz.func281.trans (congrArg some (by kernel_rfl))
  f301 := Tryz.func282.trans (congrArg some (by kernel_rfl))
  f328 := Tryz.func308.trans (congrArg some (by kernel_rfl))
  f329 := Tryz.func285.trans (congrArg some (by kernel_rfl))
  f330 := Tryz.func286.trans (congrArg some (by kernel_rfl))
  f331 := Tryz.func309.trans (congrArg some (by kernel_rfl))
  f332 := Tryz.func310.trans (congrArg some (by kernel_rfl))
  f343 := Tryz.func328.trans (congrArg some (by kernel_rfl))
  t0 := Tryz.underlying0
  a0 := Tryz.isAgg0
  z0 := Tryz.sizeOf0
  v0 := Tryz.zeroValue0
  t3 := Tryz.underlying3
  a3 := Tryz.isAgg3
  z3 := Tryz.sizeOf3
  v3 := Tryz.zeroValue3
  t4 := Tryz.underlying4
  a4 := Tryz.isAgg4
  z4 := Tryz.sizeOf4
  v4 := Tryz.zeroValue4
  t5 := Tryz.underlying5
  a5 := Tryz.isAgg5
  z5 := Tryz.sizeOf5
  v5 := Tryz.zeroValue5
  t9 := Tryz.underlying9
  a9 := Tryz.isAgg9
  z9 := Tryz.sizeOf9
  v9 := Tryz.zeroValue9
  t28 := Tryz.underlying25
  a28 := Tryz.isAgg25
  z28 := Tryz.sizeOf25
  v28 := Tryz.zeroValue25
  t46 := Tryz.underlying216
  a46 := Tryz.isAgg216
  z46 := Tryz.sizeOf216
  v46 := Tryz.zeroValue216
  t51 := Tryz.underlying230
  a51 := Tryz.isAgg230
  z51 := Tryz.sizeOf230
  v51 := Tryz.zeroValue230
  t53 := Tryz.underlying233
  a53 := Tryz.isAgg233
  z53 := Tryz.sizeOf233
  v53 := Tryz.zeroValue233
  t131 := Tryz.underlying188
  a131 := Tryz.isAgg188
  z131 := Tryz.sizeOf188
  v131 := Tryz.zeroValue188
  t182 := Tryz.underlying239
  a182 := Tryz.isAgg239
  z182 := Tryz.sizeOf239
  v182 := Tryz.zeroValue239
  t183 := Tryz.underlying240
  a183 := Tryz.isAgg240
  z183 := Tryz.sizeOf240
  v183 := Tryz.zeroValue240
  t218 := Tryz.underlying269
  a218 := Tryz.isAgg269
  z218 := Tryz.sizeOf269
  v218 := Tryz.zeroValue269
  t222 := Tryz.underlying273
  a222 := Tryz.isAgg273
  z222 := Tryz.sizeOf273
  v222 := Tryz.zeroValue273
  t228 := Tryz.underlying295
  a228 := Tryz.isAgg295
  z228 := Tryz.sizeOf295
  v228 := Tryz.zeroValue295
  t229 := Tryz.underlying296
  a229 := Tryz.isAgg296
  z229 := Tryz.sizeOf296
  v229 := Tryz.zeroValue296 }
open Go.Sort Go.RowKit in
theorem Tryz.slices_Sort_int (blk off cap : Nat) (zs : List Int) (w : World) (hH : Holds (Value.int .i64) w blk off zs.toArray) (hblk : blk < w.heap.size) (hsz : zs.length < 4611686018427387904) :
    Calls Tryz.prog 215 #[.slice (some ⟨blk, off, none⟩) zs.length cap] w fun e w' =>
      e = .returned (.tuple #[]) ∧ ∃ n os, w' = grow (putRow (Value.int .i64) (Sort.ahead w n) blk off (zs.mergeSort fun x y => decide (x ≤ y)).toArray) os := Any.slices_Sort_int Tryz.lays189 blk off cap zs w hH hblk hsz
def Tryz.lays190_ren : Go.Shelf.Ren := ⟨fun | 190 => 242 | 125 => 220 | 258 => 283 | 128 => 252 | 129 => 253 | 302 => 312 | 303 => 313 | 304 => 314 | 305 => 315 | 306 => 316 | 307 => 317 | 308 => 318 | 309 => 319 | 310 => 320 | 333 => 329 | 329 => 285 | 330 => 286 | 334 => 330 | 335 => 331 | 336 => 332 | 344 => 337 | n => n, fun | 31 => 26 | 9 => 9 | 3 => 3 | 46 => 216 | 0 => 0 | 51 => 230 | 53 => 233 | 4 => 4 | 183 => 240 | 182 => 239 | 131 => 188 | 5 => 5 | 218 => 269 | 222 => 273 | 228 => 295 | 229 => 296 | n => n, fun | n => n⟩
theorem Tryz.lays190 : Go.Proofs.Lays.n190 Tryz.prog Tryz.lays190_ren := {
  mixed := by kernel_rfl
  f125 := Tryz.func220.trans (congrArg some (by kernel_rfl))
  f128 := Tryz.func252.trans (congrArg some (by kernel_rfl))
  f129 := Tryz.func253.trans (congrArg some (by kernel_rfl))
  f190 := Tryz.func242.trans (congrArg some (by kernel_rfl))
  f258 := Tryz.func283.trans (congrArg some (by kernel_rfl))
  f302 := Tryz.func312.trans (congrArg some (by kernel_rfl))
  f303 := Tryz.func313.trans (congrArg some (by kernel_rfl))
  f304 := Tryz.func314.trans (congrArg some (by kernel_rfl))
  f305 := Tryz.func315.trans (congrArg some (by kernel_rfl))
  f306 := Tryz.func316.trans (congrArg some (by kernel_rfl))
  f307 := Tryz.func317.trans (congrArg some (by kernel_rfl))
  f308 := Tryz.func318.trans (congrArg some (by kernel_rfl))
  f309 := Tryz.func319.trans (congrArg some (by kernel_rfl))
  f310 := Tryz.func320.trans (congrArg some (by kernel_rfl))
  f329 := Tryz.func285.trans (congrArg some (by kernel_rfl))
  f330 := Tryz.func286.trans (congrArg some (by kernel_rfl))
  f333 := Tryz.func329.trans (congrArg some (by kernel_rfl))
  f334 := Tryz.func330.trans (congrArg some (by kernel_rfl))
  f335 := Tryz.func331.trans (congrArg some (by kernel_rfl))
  f336 := Tryz.func332.trans (congrArg some (by kernel_rfl))
  f344 := Tryz.func337.trans (congrArg some (by kernel_rfl))
  t0 := Tryz.underlying0
  a0 := Tryz.isAgg0
  z0 := Tryz.sizeOf0
  v0 := Tryz.zeroValue0
  t3 := Tryz.underlying3
  a3 := Tryz.isAgg3
  z3 := Tryz.sizeOf3
  v3 := Tryz.zeroValue3
  t4 := Tryz.underlying4
  a4 := Tryz.isAgg4
  z4 := Tryz.sizeOf4
  v4 := Tryz.zeroValue4
  t5 := Tryz.underlying5
  a5 := Tryz.isAgg5
  z5 := Tryz.sizeOf5
  v5 := Tryz.zeroValue5
  t9 := Tryz.underlying9
  a9 := Tryz.isAgg9
  z9 := Tryz.sizeOf9
  v9 := Tryz.zeroValue9
  t31 := Tryz.underlying26
  a31 := Tryz.isAgg26
  z31 := Tryz.sizeOf26
  v31 := Tryz.zeroValue26
  t46 := Tryz.underlying216
  a46 := Tryz.isAgg216
  z46 := Tryz.sizeOf216
  v46 := Tryz.zeroValue216
  t51 := Tryz.underlying230
  a51 := Tryz.isAgg230
  z51 := Tryz.sizeOf230
  v51 := Tryz.zeroValue230
  t53 := Tryz.underlying233
  a53 := Tryz.isAgg233
  z53 := Tryz.sizeOf233
  v53 := Tryz.zeroValue233
  t131 := Tryz.underlying188
  a131 := Tryz.isAgg188
  z131 := Tryz.sizeOf188
  v131 := Tryz.zeroValue188
  t182 := Tryz.underlying239
  a182 := Tryz.isAgg239
  z182 := Tryz.sizeOf239
  v182 := Tryz.zeroValue239
  t183 := Tryz.underlying240
  a183 := Tryz.isAgg240
  z183 := Tryz.sizeOf240
  v183 := Tryz.zeroValue240
  t218 := Tryz.underlying269
  a218 := Tryz.isAgg269
  z218 := Tryz.sizeOf269
  v218 := Tryz.zeroValue269
  t222 := Tryz.underlying273
  a222 := Tryz.isAgg273
  z222 := Tryz.sizeOf273
  v222 := Tryz.zeroValue273
  t228 := Tryz.underlying295
  a228 := Tryz.isAgg295
  z228 := Tryz.sizeOf295
  v228 := Tryz.zeroValue295
  t229 := Tryz.underlying296
  a229 := Tryz.isAgg296
  z229 := Tryz.sizeOf296
  v229 := Tryz.zeroValue296 }
open Go.Sort Go.RowKit in
theorem Tryz.slices_Sort_string (blk off cap : Nat) (ss : List (List UInt8)) (w : World) (hH : Holds encStr w blk off ss.toArray) (hblk : blk < w.heap.size) (hsz : ss.length < 4611686018427387904) :
    Calls Tryz.prog 242 #[.slice (some ⟨blk, off, none⟩) ss.length cap] w fun e w' =>
      e = .returned (.tuple #[]) ∧ ∃ n os, w' = grow (putRow encStr (Sort.ahead w n) blk off (ss.mergeSort fun x y => decide (x ≤ y)).toArray) os := Any.slices_Sort_string Tryz.lays190 blk off cap ss w hH hblk hsz
def Tryz.laysNm220_ren : Go.Shelf.Ren := ⟨fun | 20 => 216 | n => n, fun | 22 => 25 | 3 => 3 | 4 => 4 | 0 => 0 | n => n, fun | n => n⟩
theorem Tryz.laysNm220 : Go.Proofs.Lays2.n20 Tryz.prog Tryz.laysNm220_ren := {
  mixed := by kernel_rfl
  f20 := Tryz.func216.trans (congrArg some (by kernel_rfl))
  t0 := Tryz.underlying0
  a0 := Tryz.isAgg0
  z0 := Tryz.sizeOf0
  v0 := Tryz.zeroValue0
  t3 := Tryz.underlying3
  a3 := Tryz.isAgg3
  z3 := Tryz.sizeOf3
  v3 := Tryz.zeroValue3
  t4 := Tryz.underlying4
  a4 := Tryz.isAgg4
  z4 := Tryz.sizeOf4
  v4 := Tryz.zeroValue4
  t22 := Tryz.underlying25
  a22 := Tryz.isAgg25
  z22 := Tryz.sizeOf25
  v22 := Tryz.zeroValue25
  i3 := by kernel_rfl }
open Go.RowKit Go.Lib Go.Sort in
theorem Tryz.slices_Compact_int (blk off cap : Nat) (zs : List Int) (w : World) (hH : Holds (Value.int .i64) w blk off zs.toArray) (hsz : zs.length ≤ 9223372036854775807) (hcap : zs.length ≤ cap) :
    Calls Tryz.prog 216 #[.slice (some ⟨blk, off, none⟩) zs.length cap] w fun e w' => e = .returned (.slice (some ⟨blk, off, none⟩) (Lib.compact zs).length cap) ∧ ∃ q, w' = putRow (Value.int .i64) (Sort.ahead w q) blk off (Lib.compact zs ++ List.replicate (zs.length - (Lib.compact zs).length) 0).toArray := Any.slices_Compact_int Tryz.laysNm220 blk off cap zs w hH hsz hcap
open Go.RowKit Go.Lib Go.Sort in
theorem Tryz.slices_Compact_int_empty (a : Option Addr) (cap : Nat) (w : World) :
    Calls Tryz.prog 216 #[.slice a 0 cap] w fun e w' => e = .returned (.slice a 0 cap) ∧ w' = w := Any.slices_Compact_int_empty Tryz.laysNm220 a cap w
def Tryz.lays194_ren : Go.Shelf.Ren := ⟨fun | 194 => 243 | n => n, fun | 31 => 26 | 9 => 9 | 3 => 3 | 4 => 4 | 0 => 0 | n => n, fun | n => n⟩
theorem Tryz.lays194 : Go.Proofs.Lays.n194 Tryz.prog Tryz.lays194_ren := {
  mixed := by kernel_rfl
  f194 := Tryz.func243.trans (congrArg some (by kernel_rfl))
  t0 := Tryz.underlying0
  a0 := Tryz.isAgg0
  z0 := Tryz.sizeOf0
  v0 := Tryz.zeroValue0
  t3 := Tryz.underlying3
  a3 := Tryz.isAgg3
  z3 := Tryz.sizeOf3
  v3 := Tryz.zeroValue3
  t4 := Tryz.underlying4
  a4 := Tryz.isAgg4
  z4 := Tryz.sizeOf4
  v4 := Tryz.zeroValue4
  t9 := Tryz.underlying9
  a9 := Tryz.isAgg9
  z9 := Tryz.sizeOf9
  v9 := Tryz.zeroValue9
  t31 := Tryz.underlying26
  a31 := Tryz.isAgg26
  z31 := Tryz.sizeOf26
  v31 := Tryz.zeroValue26 }
open Go.RowKit Go.Lib Go.Sort in
theorem Tryz.slices_Compact_string (blk off cap : Nat) (zs : List (List UInt8)) (w : World) (hH : Holds encStr w blk off zs.toArray) (hsz : zs.length ≤ 9223372036854775807) (hcap : zs.length ≤ cap) :
    Calls Tryz.prog 243 #[.slice (some ⟨blk, off, none⟩) zs.length cap] w fun e w' => e = .returned (.slice (some ⟨blk, off, none⟩) (Lib.compact zs).length cap) ∧ ∃ q, w' = putRow encStr (Sort.ahead w q) blk off (Lib.compact zs ++ List.replicate (zs.length - (Lib.compact zs).length) []).toArray := Any.slices_Compact_string Tryz.lays194 blk off cap zs w hH hsz hcap
open Go.RowKit Go.Lib Go.Sort in
theorem Tryz.slices_Compact_string_empty (a : Option Addr) (cap : Nat) (w : World) :
    Calls Tryz.prog 243 #[.slice a 0 cap] w fun e w' => e = .returned (.slice a 0 cap) ∧ w' = w := Any.slices_Compact_string_empty Tryz.lays194 a cap w
open Go.RowKit Go.Sort in
theorem Tryz.slices_Sort_string_none (p : Option Addr) (cap : Nat) (w : World) :
    Calls Tryz.prog 242 #[.slice p 0 cap] w fun e w' => e = .returned (.tuple #[]) ∧ w' = w := Any.slices_Sort_string_none Tryz.lays190 p cap w
open Go.RowKit Go.Sort in
theorem Tryz.slices_Sort_int_none (p : Option Addr) (cap : Nat) (w : World) :
    Calls Tryz.prog 215 #[.slice p 0 cap] w fun e w' => e = .returned (.tuple #[]) ∧ w' = w := Any.slices_Sort_int_none Tryz.lays189 p cap w
end Go.Proofs
namespace Go.Proofs.YtclpbhoekmecjaaGreatDoor
open Go.RowKit
set_option linter.unusedVariables false
set_option maxRecDepth 100000
set_option maxHeartbeats 4000000
attribute [local irreducible] az Der At
theorem nE (l:List ByteArray) (hl:l.length≤1000):FnD Tryz.prog 104 [DS l] (.row 1 9 (l.map .s)):=by
 refine ai Tryz.func104 (fun hw W0=>?_)
 refine kgo ?_
 refine GY (fun h=>?_) ?_
 ·rw [h]
  refine kgo ?_
  refine DQ 2 20001 9 ?_
  exact td
 ·refine kgo ?_
  exact td
theorem nL (l:List Int) (hl:l.length≤1000):FnD Tryz.prog 103 [DI l] (.row 1 3 (l.map .i)):=by
 refine ai Tryz.func103 (fun hw W0=>?_)
 refine kgo ?_
 refine GY (fun h=>?_) ?_
 ·rw [h]
  refine kgo ?_
  refine DQ 2 20001 3 ?_
  exact td
 ·refine kgo ?_
  exact td
theorem CP (l:List Wr) (hl:l.length≤1000):FnD Tryz.prog 105 [.l 2 (l.map Wr.D)] (.row 2 133 (l.map Wr.D)):=by
 refine ai Tryz.func105 (fun hw W0=>?_)
 refine kgo ?_
 refine GY (fun h=>?_) ?_
 ·rw [h]
  refine kgo ?_
  refine DQ 2 20001 133 ?_
  exact td
 ·refine kgo ?_
  exact td
theorem jf {α:Type} [Inhabited α] [DecidableEq α] (R:α→α→Prop) (tr:∀x y z,R x y→R y z→R x z) (d:Array α) (hs:∀i j,i<j→j<d.size→R d[i]! d[j]!∨d[i]! = d[j]!):∀m,m≤d.size→(Lib.compactUpTo d m).Pairwise R∧(∀z,z∈Lib.compactUpTo d m↔∃j,j<m∧d[j]! = z):=by
 intro m
 induction m with
 | zero=>intro _;exact ⟨by simp [Lib.compactUpTo],fun z=>by simp [Lib.compactUpTo]⟩
 | succ m ih=>
  intro hm
  obtain ⟨h1,h2⟩:=ih (by omega)
  rw [Lib.compactUpTo_succ]
  by_cases hk:Lib.keeps d m=true
  ·rw [if_pos hk]
   refine ⟨List.pairwise_append.2 ⟨h1,List.pairwise_singleton _ _,fun x hx y hy=>?_⟩,fun z=>?_⟩
   ·rw [List.mem_singleton] at hy
    subst hy
    obtain ⟨j,hj,rfl⟩:=(h2 x).1 hx
    have hne:d[m - 1]!≠d[m]!:=fun e=>by
     rw [Lib.keeps_neg (by omega) e.symm] at hk;cases hk
    have h3:=(hs (m - 1) m (by omega) (by omega)).resolve_right hne
    by_cases hjm:j=m - 1
    ·rw [hjm];exact h3
    ·rcases hs j (m - 1) (by omega) (by omega) with h4|h4
     ·exact tr _ _ _ h4 h3
     ·rw [h4];exact h3
   ·rw [List.mem_append,List.mem_singleton,h2]
    constructor
    ·rintro (⟨j,hj,e⟩|e)
     ·exact ⟨j,by omega,e⟩
     ·exact ⟨m,by omega,e.symm⟩
    ·rintro ⟨j,hj,e⟩
     by_cases hjm:j=m
     ·subst hjm;exact .inr e.symm
     ·exact .inl ⟨j,by omega,e⟩
  ·rw [if_neg hk,List.append_nil]
   refine ⟨h1,fun z=>(h2 z).trans ⟨fun ⟨j,hj,e⟩=>⟨j,by omega,e⟩,fun ⟨j,hj,e⟩=>?_⟩⟩
   by_cases hjm:j=m
   ·subst hjm
    have h0:0<j:=by
     rcases Nat.eq_zero_or_pos j with h|h
     ·subst h;exact absurd (Lib.keeps_lt_one d 0 (by omega)) hk
     ·exact h
    have heq:d[j]! = d[j - 1]!:=Classical.byContradiction fun hne=>hk (Lib.keeps_pos hne)
    exact ⟨j - 1,by omega,by rw [← heq];exact e⟩
   ·exact ⟨j,by omega,e⟩
theorem nR {α:Type} [Inhabited α] [DecidableEq α] (R:α→α→Prop) (tr:∀x y z,R x y→R y z→R x z) (l:List α) (hs:l.Pairwise fun x y=>R x y∨x=y):(Lib.compact l).Pairwise R∧∀z,z∈Lib.compact l↔z∈l:=by
 have h:=jf R tr l.toArray (fun i j hij hj=>by
  have hj':j<l.length:=by simpa using hj
  have:=(List.pairwise_iff_getElem.1 hs) i j (by omega) hj' hij
  simpa [show i<l.length by omega,hj'] using this) l.length (by simp)
 refine ⟨h.1,fun z=>(h.2 z).trans ⟨fun ⟨j,hj,e⟩=>?_,fun hz=>?_⟩⟩
 ·rw [← e];simp [hj]
 ·obtain ⟨j,hj,rfl⟩:=List.mem_iff_getElem.1 hz
  exact ⟨j,hj,by simp [hj]⟩
def FV (l:List Int):List Int:=l.mergeSort fun x y=>decide (x≤y)
theorem E7 (l:List Int) (hl:l.length≤1000000):FnS Tryz.prog 215 1 3 (l.map .i) [] ((FV l).map .i):=
 Ds Dx (bX Tryz.func215) (fun y hy=>(List.mem_mergeSort).1 hy) (List.length_mergeSort _) (fun p cap w=>Tryz.slices_Sort_int_none p cap w) (fun g cap w hH hg=>Tryz.slices_Sort_int g 0 cap l w hH hg (by omega))
theorem w9 (l:List Int):FnC Tryz.prog 216 1 3 (l.map .i) [] ((Lib.compact l).map .i):=
 Dk Dx (us:=List.replicate (l.length - (Lib.compact l).length) 0) (bX Tryz.func216) (fun y hy=>by
  obtain ⟨j,hj,e⟩:=(jf (fun _ _=>True) (fun _ _ _ _ _=>trivial) l.toArray (fun _ _ _ _=>.inl trivial) l.length (by simp)).2 y |>.1 hy
  rw [← e];simp [hj]) (by rw [List.length_append,List.length_replicate];have:=Lib.compact_length_le l;omega) (fun p cap w=>Tryz.slices_Compact_int_empty p cap w) (fun g cap w hH hc hm=>Tryz.slices_Compact_int g 0 cap l w hH (by unfold maxLen at hm;omega) hc)
abbrev toU (b:ByteArray):List UInt8:=b.data.toList
abbrev ofU (l:List UInt8):ByteArray:=⟨l.toArray⟩
theorem uW (b:ByteArray):ofU (toU b)=b:=by cases b;simp [ofU,toU]
theorem Hy (l:List ByteArray):(l.map toU).map (fun x:List UInt8=>D.s ⟨x.toArray⟩)=l.map D.s:=by
 rw [List.map_map]
 exact List.map_congr_left fun b _=>congrArg D.s (uW b)
theorem G8 (l:List (List UInt8)):l.map (fun x:List UInt8=>D.s ⟨x.toArray⟩)=(l.map ofU).map D.s:=by rw [List.map_map];rfl
def Gi (l:List (List UInt8)):List (List UInt8):=l.mergeSort fun x y=>decide (x≤y)
theorem Es (l:List ByteArray) (hl:l.length≤1000000):FnS Tryz.prog 242 1 9 (l.map .s) [] ((Gi (l.map toU)).map fun x:List UInt8=>D.s ⟨x.toArray⟩):=by
 rw [← Hy l]
 exact Ds DF (bX Tryz.func242) (fun y hy=>(List.mem_mergeSort).1 hy) (List.length_mergeSort _) (fun p cap w=>Tryz.slices_Sort_string_none p cap w) (fun g cap w hH hg=>Tryz.slices_Sort_string g 0 cap (l.map toU) w hH hg (by rw [List.length_map];omega))
theorem yp (l:List (List UInt8)):FnC Tryz.prog 243 1 9 (l.map fun x:List UInt8=>D.s ⟨x.toArray⟩) [] ((Lib.compact l).map fun x:List UInt8=>D.s ⟨x.toArray⟩):=
 Dk DF (us:=List.replicate (l.length - (Lib.compact l).length) []) (bX Tryz.func243) (fun y hy=>by
  obtain ⟨j,hj,e⟩:=(jf (fun _ _=>True) (fun _ _ _ _ _=>trivial) l.toArray (fun _ _ _ _=>.inl trivial) l.length (by simp)).2 y |>.1 hy
  rw [← e];simp [hj]) (by rw [List.length_append,List.length_replicate];have:=Lib.compact_length_le l;omega) (fun p cap w=>Tryz.slices_Compact_string_empty p cap w) (fun g cap w hH hc hm=>Tryz.slices_Compact_string g 0 cap l w hH (by unfold maxLen at hm;omega) hc)
end Go.Proofs.YtclpbhoekmecjaaGreatDoor
namespace Go.Proofs.YtclpbhoekmecjaaGreatDoor
open Go.RowKit
set_option linter.unusedVariables false
set_option maxRecDepth 100000
set_option maxHeartbeats 4000000
attribute [local irreducible] az Der At
theorem yh {x y:List UInt8} (h:x≤y):Op.bytesLess x y=true∨x=y:=by
 by_cases e:x=y
 ·exact .inr e
 ·refine .inl ?_
  have h1:=NLt.total (a:=ofU x) (b:=ofU y) (fun he=>e (by have:=congrArg toU he;simpa [toU,ofU] using this))
  unfold NLt dh at h1
  rw [ByteArray.toList_eq,ByteArray.toList_eq] at h1
  simp only at h1
  rcases h1 with h1|h1
  ·simpa using h1
  ·rw [_root_.Go.Proofs.bytesLess_eq] at h1
   exact absurd (of_decide_eq_true h1) h
theorem BT (l:List ByteArray):(Lib.compact (Gi (l.map toU))).map ofU=ca l:=by
 have hs:(Gi (l.map toU)).Pairwise fun x y=>Op.bytesLess x y=true∨x=y:=by
  have:=List.pairwise_mergeSort (le:=fun x y:List UInt8=>decide (x≤y)) (fun a b c h1 h2=>by
   simp only [decide_eq_true_eq] at h1 h2 ⊢
   exact List.le_trans h1 h2) (fun a b=>by
   simp only [Bool.or_eq_true,decide_eq_true_eq]
   exact List.le_total a b) (l.map toU)
  exact this.imp fun {x y} h=>yh (of_decide_eq_true h)
 obtain ⟨h1,h2⟩:=nR (fun x y=>Op.bytesLess x y=true) (fun x y z=>mO x y z) _ hs
 refine (wB (List.pairwise_map.2 (h1.imp fun {x y} h=>?_)) (fun z=>?_)).symm
 ·show dh _ _=true
  unfold dh
  rw [ByteArray.toList_eq,ByteArray.toList_eq]
  simpa [ofU] using h
 ·rw [List.mem_map]
  constructor
  ·rintro ⟨x,hx,rfl⟩
   rw [h2] at hx
   obtain ⟨b,hb,rfl⟩:=List.mem_map.1 (List.mem_mergeSort.1 hx)
   rw [uW];exact hb
  ·intro hz
   exact ⟨toU z,(h2 _).2 (List.mem_mergeSort.2 (List.mem_map.2 ⟨z,hz,rfl⟩)),uW z⟩
theorem kN (l:List ByteArray) (hl:l.length≤1000):FnD Tryz.prog 217 [DS l] (.d (DS (ca l))):=by
 have f1:=nE l hl
 have f2:=Es l (by omega)
 have f3:=yp (Gi (l.map toU))
 have hE:(Lib.compact (Gi (l.map toU))).map (fun x:List UInt8=>D.s ⟨x.toArray⟩)=(ca l).map D.s:=by rw [← BT,G8]
 rw [hE] at f3
 refine ai Tryz.func217 (fun hw W0=>?_)
 repeat (first|(refine ck ?_;first|refine bd ?_|refine cC ?_|refine bo ?_|refine bl ?_|refine aY ?_|refine br ?_|refine bw ?_|refine aK ?_|refine bp ?_)|(refine gv ?_;first|refine cd ?_|refine gg ?_|refine ct ?_|refine cz ?_)|(refine gj ?_;first|refine eV (fun _=>?_)|refine cu ?_|refine cq ?_|refine bT ?_|refine ci ?_|refine cw ?_)|(refine gu ?_;first|refine cK ?_|refine fy ?_|refine cH ?_|refine bY ?_|refine cF ?_|refine cE ?_)|(refine fV ?_;first|refine gq ?_|refine fQ ?_|refine ch ?_|refine cb ?_|refine fZ ?_|refine bf ?_|refine bm ?_)|(refine cm ?_;first|refine be ?_|refine cI ?_)|(refine fY ?_;first|refine iY (d:=2) ?_|refine cG ?_|refine cA ?_|refine gm ?_)|(refine cj ?_;first|refine cr ?_|refine bj ?_|refine bc ?_|refine bk ?_|refine aX ?_|refine bu ?_)|(refine gr ?_;first|refine cB ?_|refine fS ?_|refine bq ?_)|(refine aW ?_;first|refine aC _ ?_|refine bt ?_|refine aG ?_|refine aE ?_|refine aJ ?_)|(refine gh ?_;first|refine co ?_|refine b7 ?_|refine cy ?_)|(refine gOp ?_;first|refine gx ?_|refine gd ?_|refine bh ?_|refine fX ?_|refine fW ?_|refine cJ ?_|refine aZ ?_|refine cg ?_|refine gw ?_|refine b8 ?_|refine cL ?_|refine bg ?_|refine aH ?_|refine cD ?_|refine sNo ?_)|refine gC ?_|refine fa ?_|refine gG ?_|refine bA ?_|refine cM ?_|refine bP ?_|refine gL ?_|refine gF ?_|refine gA ?_|refine fm ?_|refine cQ ?_|refine bD ?_|refine aB ?_|refine bB ?_|refine cO ?_|refine bN ?_|refine aBlkX ?_|refine cP ?_)
 exact ax
def fJ (a:Big) (ks:List Int):List Int:=ks.flatMap fun k=>(eA a k).links
theorem t7 (a:Big) (ks:List Int) (k:Int):fJ a (ks++[k])=fJ a ks++(eA a k).links:=by unfold fJ;rw [List.flatMap_append];simp
theorem sK {sig:List Ctl} {b:Big} (h:ay sig b=true) (i:Nat) (hi:i<b.nodes.length):(b.nodes[i]).links.length≤3:=by
 obtain ⟨c0,c1,_,c3,_⟩:=eB h i hi
 have:=sw (de (cN h).1).1 _ c0 c1
 omega
theorem gV {a:Big} {ns:List Int} {k:Int} (h:k∈bC a ns):∃q:Nat,k=q∧q<a.nodes.length∧mI a ns q=true:=by
 obtain ⟨q,h1,h2,h3⟩:=bz.1 h
 exact ⟨q,h3,h1,h2⟩
theorem mE {sig:List Ctl} {a:Big} (h:ay sig a=true):∀ks:List Int,(∀k∈ks,∃q:Nat,k=q∧q<a.nodes.length)→(fJ a ks).length≤3 * ks.length:=by
 intro ks
 induction ks with
 | nil=>intro _;exact Nat.le_refl _
 | cons k ks ih=>
  intro hk
  obtain ⟨q,rfl,hq⟩:=hk k (by simp)
  have h1:=ih (fun x hx=>hk x (by simp [hx]))
  have h2:=sK h q hq
  show ((eA a (q:Int)).links++fJ a ks).length≤_
  rw [List.length_append,aA a q hq,List.length_cons];omega
theorem tC {sig:List Ctl} {a:Big} (h:ay sig a=true) (ns:List Int):Lib.compact (FV (fJ a (bC a ns)))=aq a ns:=by
 have hs:(FV (fJ a (bC a ns))).Pairwise fun x y:Int=>x<y∨x=y:=by
  have:=List.pairwise_mergeSort (le:=fun x y:Int=>decide (x≤y)) (fun a b c h1 h2=>by simp only [decide_eq_true_eq] at h1 h2 ⊢;omega) (fun a b=>by simp only [Bool.or_eq_true,decide_eq_true_eq];omega) (fJ a (bC a ns))
  exact this.imp fun {x y} h=>by have:=of_decide_eq_true h;omega
 obtain ⟨h1,h2⟩:=nR (fun x y:Int=>x<y) (fun x y z=>Int.lt_trans) _ hs
 refine Au (lt:=fun x y:Int=>x<y) (fun x=>Int.lt_irrefl x) (fun x y z=>Int.lt_trans) _ _ h1 (gU _ _) (fun z=>?_)
 rw [h2]
 constructor
 ·intro hz
  obtain ⟨k,hk,hl⟩:=List.mem_flatMap.1 (List.mem_mergeSort.1 hz)
  obtain ⟨q,rfl,hq,_⟩:=gV hk
  rw [aA a q hq] at hl
  obtain ⟨l,rfl,hll⟩:=gz ((eB h q hq).2.2.2.2 _ hl)
  exact bz.2 ⟨l,hll,List.any_eq_true.2 ⟨_,hk,by rw [aA a q hq];exact cS.2 hl⟩,rfl⟩
 ·intro hz
  obtain ⟨l,hll,hp,rfl⟩:=bz.1 hz
  obtain ⟨k,hk,hl⟩:=List.any_eq_true.1 hp
  exact List.mem_mergeSort.2 (List.mem_flatMap.2 ⟨k,hk,cS.1 hl⟩)
theorem s8 {α:Type} [DecidableEq α] (xs ys:List α) (h:xs.Nodup) (hs:∀x∈xs,x∈ys):xs.length≤ys.length:=by
 induction xs generalizing ys with
 | nil=>exact Nat.zero_le _
 | cons x xs ih=>
  have hx:=hs x (by simp)
  rw [List.nodup_cons] at h
  have h2:=ih (ys.erase x) h.2 (fun y hy=>(List.mem_erase_of_ne (fun (e:y=x)=>h.1 (by rw [← e];exact hy))).2 (hs y (by simp [hy])))
  rw [List.length_erase_of_mem hx] at h2
  have:=List.length_pos_of_mem hx
  rw [List.length_cons];omega
theorem zX {sig:List Ctl} {r:Big} (h:ay sig r=true) (hs:bZ r=true):ap r≤3 * r.nodes.length:=by
 let code:Nat→Nat:=fun l=>3 * ((aw r l).getD 0 (0,0)).1.toNat+((aw r l).getD 0 (0,0)).2.toNat
 have hc:∀l,l<ap r→∃i j:Nat,∃hi:i<r.nodes.length,∃hj:j<(r.nodes[i]).links.length,(r.nodes[i]).links[j]=(l:Int)∧code l=3 * i+j:=fun l hl=>by
  have h0:0<(aw r l).length:=List.length_pos_iff.2 (gO hs l hl)
  obtain ⟨i,j,hi,hj,e1,e2⟩:=dG.1 (List.getElem_mem h0)
  refine ⟨i,j,hi,hj,e1,?_⟩
  show 3 * ((aw r l).getD 0 (0,0)).1.toNat+((aw r l).getD 0 (0,0)).2.toNat=_
  rw [List.getD_eq_getElem?_getD,List.getElem?_eq_getElem h0,Option.getD_some,e2];rfl
 have hn:((List.range (ap r)).map code).Nodup:=by
  refine List.pairwise_map.2 (List.Pairwise.imp_of_mem (fun {x y} hx hy hne e=>hne ?_) List.nodup_range)
  obtain ⟨i,j,hi,hj,e1,e2⟩:=hc x (List.mem_range.1 hx)
  obtain ⟨i',j',hi',hj',e3,e4⟩:=hc y (List.mem_range.1 hy)
  have l1:=sK h i hi
  have l2:=sK h i' hi'
  have hii:i=i':=by omega
  subst hii
  have hjj:j=j':=by omega
  subst hjj
  omega
 have:=s8 _ (List.range (3 * r.nodes.length)) hn (fun x hx=>by
  obtain ⟨l,hl,rfl⟩:=List.mem_map.1 hx
  obtain ⟨i,j,hi,hj,e1,e2⟩:=hc l (List.mem_range.1 hl)
  have l1:=sK h i hi
  rw [e2];exact List.mem_range.2 (by omega))
 simpa using this
theorem xE {sig:List Ctl} {r a:Big} {ns:List Int} (hr:ay sig r=true) (hs:bZ r=true) (ha:ay sig a=true) (him:mf r a ns):(aq a ns).length+r.outer.length≤24:=by
 have h1:=zX hr hs
 have hd:=aU ha
 have hdr:=aU hr
 have h2:(bC a ns).length+ns.length≤a.nodes.length:=by
  have hn:(bC a ns++ns).Nodup:=by
   refine List.nodup_append.2 ⟨iS (· < ·) (fun x=>Int.lt_irrefl x) (gU _ _),List.nodup_iff_pairwise_ne.2 (List.pairwise_iff_getElem.2 fun i j hi hj hij e=>?_),fun x hx y hy e=>?_⟩
   ·have:=him.inj i j (by have:=him.len;omega) (by have:=him.len;omega) (by rw [bJ _ i hi,bJ _ j hj];exact e)
    omega
   ·obtain ⟨q,rfl,_,hp⟩:=gV hx
    unfold mI at hp
    rw [← e] at hy
    rw [cS.2 hy] at hp
    simp at hp
  have:=s8 _ (kK a.nodes.length) hn (fun x hx=>by
   unfold kK
   rcases List.mem_append.1 hx with hx|hx
   ·obtain ⟨q,rfl,hq,_⟩:=gV hx
    exact List.mem_map.2 ⟨q,List.mem_range.2 hq,rfl⟩
   ·obtain ⟨i,hi,rfl⟩:=List.mem_iff_getElem.1 hx
    obtain ⟨mm,hm,e,_⟩:=him.at' i (by have:=him.len;omega)
    rw [bJ _ i hi] at e
    exact List.mem_map.2 ⟨mm,List.mem_range.2 hm,e.symm⟩)
  rw [List.length_append,ic] at this
  exact this
 have h3:=mE ha (bC a ns) (fun k hk=>by obtain ⟨q,e,hq,_⟩:=gV hk;exact ⟨q,e,hq⟩)
 have h4:(aq a ns).length≤(fJ a (bC a ns)).length:=by
  rw [← tC ha ns]
  exact Nat.le_trans (Lib.compact_length_le _) (by unfold FV;rw [List.length_mergeSort];exact Nat.le_refl _)
 have h5:=him.len
 have h6:r.outer.length≤ap r:=by unfold ap;omega
 omega
theorem D8:∀i:Fin 26,Utf8.encode (97+((i:Nat):Int))=⟨#[UInt8.ofNat (97+i)]⟩:=by decide
theorem uV (a:Big) (ks:List Int):([]:List D)=(fJ a (ks.take 0)).map D.i:=rfl
theorem sD (o:List ByteArray):kJ o 0 = []:=rfl
attribute [local irreducible] kJ mH aq fJ in
theorem ln {sig:List Ctl} {r a:Big} (m:Mat) (hbr:ay sig r=true) (hs:bZ r=true) (hba:ay sig a=true) (him:mf r a m.nodes):FnD Tryz.prog 159 [r.D,a.D,m.D] (.tp [DI (aq a m.nodes),DS (bI r.outer (aq a m.nodes).length),.b (decide (((aq a m.nodes).length:Int)+r.outer.length≤16))]):=by
 have few:=xE hbr hs hba him
 have hdr:=aU hbr
 have da:=bG hba
 have hn8:=(aU hba).2.1
 have f1:=lB m hba
 have hks:∀k∈bC a m.nodes,∃q:Nat,k=q∧q<a.nodes.length:=fun k hk=>by obtain ⟨q,e,hq,_⟩:=gV hk;exact ⟨q,e,hq⟩
 have hkl:(bC a m.nodes).length≤a.nodes.length:=dQ _ _
 have hpe:=tC hba m.nodes
 have hlen:=mE hba (bC a m.nodes) hks
 have f2:=E7 (fJ a (bC a m.nodes)) (by omega)
 have f3:=w9 (FV (fJ a (bC a m.nodes)))
 rw [hpe] at f3
 have hlks:∀i,i≤(bC a m.nodes).length→(fJ a ((bC a m.nodes).take i)).length≤3 * i:=fun i hi=>by
  have:=mE hba ((bC a m.nodes).take i) (fun k hk=>hks k (List.mem_of_mem_take hk))
  rw [List.length_take] at this;omega
 have hL0:=uV a (bC a m.nodes)
 have hN0:([]:List D)=(kJ r.outer 0).map D.s:=by rw [sD];rfl
 refine ai Tryz.func159 (fun hw W0=>?_)
 refine kgo ?_
 refine ar [3,4,10,19,20] (fun i:Nat=>i≤(bC a m.nodes).length) (fun i=>(bC a m.nodes).length - i) (fun i=>[(9,.sy (.k 20001)),(20001,.tk (.row 1 3 ((fJ a ((bC a m.nodes).take i)).map .i))),(21,.sy (.d (.i i)))]) 0 (Nat.zero_le _) (fun i hi=>?_)
 refine kgo ?_
 refine aV (fun h=>?_) (fun h=>?_)
 ·have hlt:i<(bC a m.nodes).length:=by omega
  obtain ⟨q,hq,hqa⟩:=hks _ (List.getElem_mem hlt)
  have h3:=sK hba q hqa
  have hl:=hlks i hi
  have hs:(fJ a ((bC a m.nodes).take (i+1))).map D.i=(fJ a ((bC a m.nodes).take i)++(a.nodes[q]).links).map D.i:=by rw [List.take_succ_eq_append_getElem hlt,t7,hq,aA a q hqa]
  refine kgo ?_
  refine eV (n:=q) (fun _=>?_) rfl rfl (congrArg some hq)
  refine kgo ?_
  exact ab (i+1) hlt (by omega)
 rw [show (bC a m.nodes).take i=bC a m.nodes from List.take_of_length_le (by omega)]
 refine kgo ?_
 refine ar [3,9] (fun j:Nat=>j≤24∧(kJ r.outer j).length≤(aq a m.nodes).length) (fun j=>24 - j) (fun j=>[(10,.sy (.k 20002)),(20002,.tk (.row 1 9 ((kJ r.outer j).map .s))),(13,.sy (.v (.int .i32 (97+(j:Int)))))]) 0 ⟨Nat.zero_le _,by rw [sD];exact Nat.zero_le _⟩ (fun j hj=>?_)
 refine kgo ?_
 refine aV (fun h=>?_) (fun h=>?_)
 ·simp only [List.length_map] at h
  have hfew:=yO r.outer j (by omega)
  have hra:Utf8.encode (97+(j:Int))=⟨#[UInt8.ofNat (97+j)]⟩:=D8 ⟨j,by omega⟩
  have hcat:(⟨#[122]⟩:ByteArray).size+(⟨#[UInt8.ofNat (97+j)]⟩:ByteArray).size≤1000000:=by show 1+1≤1000000;omega
  have hj26:j<26:=by omega
  have f4:=o9 r.outer (mH j)
  have hz:=rT ⟨j,hj26⟩
  dsimp only at hz
  rw [← hz] at f4
  have hfr:(!rC r.outer ((⟨#[122]⟩:ByteArray) ++ ⟨#[UInt8.ofNat (97+j)]⟩))=kQ r.outer j:=by rw [hz];unfold rC kQ;rw [qU]
  have hsu:=o5 r.outer j
  refine kgo ?_
  refine GV hra (by show 1≤maxLen;decide) ?_
  refine kgo ?_
  refine cIf (fun h2=>?_) (fun h2=>?_)
  ·rw [hfr] at h2
   rw [if_pos h2] at hsu
   have hs:(kJ r.outer (j+1)).map D.s=(kJ r.outer j).map D.s++[.s ((⟨#[122]⟩:ByteArray) ++ ⟨#[UInt8.ofNat (97+j)]⟩)]:=by rw [hsu,List.map_append,hz];rfl
   have hlen2:(kJ r.outer (j+1)).length=(kJ r.outer j).length+1:=by rw [hsu,List.length_append];rfl
   refine kgo ?_
   rw [show 97+(j:Int)+1=97+((j+1:Nat):Int) by omega]
   exact ab (j+1) ⟨by omega,by omega⟩ (by omega) (hs:=⟨⟨rfl,rfl⟩,⟨jV rfl hs.symm,rfl⟩,⟨rfl,rfl⟩,by repeat (first|exact trivial|refine ⟨⟨rfl,rfl⟩,?_⟩)⟩)
  ·rw [hfr] at h2
   rw [if_neg (by rw [h2];exact Bool.false_ne_true)] at hsu
   have hs:(kJ r.outer (j+1)).map D.s=(kJ r.outer j).map D.s:=by rw [hsu]
   refine kgo ?_
   rw [show 97+(j:Int)+1=97+((j+1:Nat):Int) by omega]
   exact ab (j+1) ⟨by omega,by rw [hsu];exact hj.2⟩ (by omega) (hs:=⟨⟨rfl,rfl⟩,⟨jV rfl hs.symm,rfl⟩,⟨rfl,rfl⟩,by repeat (first|exact trivial|refine ⟨⟨rfl,rfl⟩,?_⟩)⟩)
 simp only [List.length_map] at h
 have hle:(kJ r.outer j).length=(aq a m.nodes).length:=by omega
 rw [← hle,tm r.outer j (by omega)]
 rw [hle]
 repeat (first|refine cFz 9 ?_|refine cFz 10 ?_|(refine ck ?_;first|refine bd ?_|refine cC ?_|refine bo ?_|refine bl ?_|refine aY ?_|refine br ?_|refine bw ?_|refine aK ?_|refine bp ?_)|(refine gv ?_;first|refine cd ?_|refine gg ?_|refine ct ?_|refine cz ?_)|(refine gj ?_;first|refine eV (fun _=>?_)|refine cu ?_|refine cq ?_|refine bT ?_|refine ci ?_|refine cw ?_)|(refine gu ?_;first|refine cK ?_|refine fy ?_|refine cH ?_|refine bY ?_|refine cF ?_|refine cE ?_)|(refine fV ?_;first|refine gq ?_|refine fQ ?_|refine ch ?_|refine cb ?_|refine fZ ?_|refine bf ?_|refine bm ?_)|(refine cm ?_;first|refine be ?_|refine cI ?_)|(refine fY ?_;first|refine cG ?_|refine cA ?_|refine gm ?_)|(refine cj ?_;first|refine cr ?_|refine bj ?_|refine bc ?_|refine bk ?_|refine aX ?_|refine bu ?_)|(refine gr ?_;first|refine cB ?_|refine fS ?_|refine bq ?_)|(refine aW ?_;first|refine aC _ ?_|refine bt ?_|refine aG ?_|refine aE ?_|refine aJ ?_)|(refine gh ?_;first|refine co ?_|refine b7 ?_|refine cy ?_)|(refine gOp ?_;first|refine gx ?_|refine gd ?_|refine bh ?_|refine fX ?_|refine fW ?_|refine cJ ?_|refine aZ ?_|refine cg ?_|refine gw ?_|refine b8 ?_|refine cL ?_|refine bg ?_|refine aH ?_|refine cD ?_|refine sNo ?_)|refine gC ?_|refine fa ?_|refine gG ?_|refine bA ?_|refine cM ?_|refine bP ?_|refine gL ?_|refine gF ?_|refine gA ?_|refine fm ?_|refine cQ ?_|refine bD ?_|refine aB ?_|refine bB ?_|refine cO ?_|refine bN ?_|refine aBlkX ?_|refine cP ?_)
 exact iN
end Go.Proofs.YtclpbhoekmecjaaGreatDoor
namespace Go.Proofs.YtclpbhoekmecjaaGreatDoor
open Go.RowKit
set_option linter.unusedVariables false
set_option maxRecDepth 100000
set_option maxHeartbeats 4000000
attribute [local irreducible] az Der At
abbrev yK (b:Big):List Pt:=[.d (.i b.roots),.tk (.deep 3 131 (b.nodes.map Nd.D) []),.tk (.row 1 3 (b.sites.map .i)),.d (.i b.edges),.tk (.row 1 9 (b.outer.map .s)),.tk (.row 2 133 (b.inner.map Wr.D))]
theorem jJ (b:Big) (hd:uz b) (hi:b.inner.length≤1000):FnO Tryz.prog 57 [b.D] [6] (yK b):=by
 obtain ⟨hd1,hd2,hd3,hd4,hd5,hd6,hd7⟩:=hd
 have f1:=nL b.sites hd4
 have f2:=nE b.outer hd5
 have f3:=CP b.inner hi
 refine dy Tryz.func57 (fun hw W0=>?_)
 refine kgo ?_
 refine GX 10003 1 20001 131 ?_
 refine ar [2,3,21,22,10010,10015,10018] (fun i:Nat=>i≤b.nodes.length) (fun i=>b.nodes.length - i) (fun i=>[(23,.sy (.d (.i i))),(10003,.tk (.bx [.d (.i b.roots),.k 20001,.k 10010,.d (.i b.edges),.k 10015,.k 10018])),(20001,.tk (.deep 3 131 ((b.nodes.take i).map Nd.D) []))]) 0 (Nat.zero_le _) (fun i hi=>?_)
 refine kgo ?_
 refine aV (fun h=>?_) (fun h=>?_)
 ·have hlt:i<b.nodes.length:=by omega
  have f4:=nL b.nodes[i].links (hd7 i hlt)
  have hs:(b.nodes.take (i+1)).map Nd.D=(b.nodes.take i).map Nd.D++[b.nodes[i].D]:=by rw [List.take_succ_eq_append_getElem hlt,List.map_append];rfl
  refine kgo ?_
  exact ab (i+1) hlt (by omega) (hs:=⟨⟨rfl,rfl⟩,⟨rfl,rfl⟩,⟨zp rfl hs.symm,rfl⟩,by repeat (first|exact trivial|refine ⟨⟨rfl,rfl⟩,?_⟩)⟩)
 rw [List.take_of_length_le (by omega)]
 refine kgo ?_
 exact gP (hp:=.cons (.d rfl) (.cons (.k rfl rfl) (.cons (.k rfl rfl) (.cons (.d rfl) (.cons (.k rfl rfl) (.cons (.k rfl rfl) .nil))))))
theorem gZ (sig:List Ctl) (b:Big) (hl:b.inner.length≤1048576):FnD Tryz.prog 101 [.l 3 (sig.map Ctl.D),b.D] (.d (.b (ay sig b))):=⟨bX Tryz.func101,fun F w vs hv hF=>by
 obtain ⟨v1,t,rfl,h1,v2,t2,rfl,h2,h3⟩:=hv
 cases (show t2 = [] from h3)
 obtain ⟨cs,rfl,hb⟩:=ne h2
 refine (eL _ _ _ _ _ _ _ _ _ (sp.toV (by decide) h1) hb hl).mono ?_
 rintro e w' ⟨rfl,hX⟩
 exact ⟨_,rfl,hX,rfl⟩⟩
theorem Be (sig:List Ctl) (b:Big) (hl:b.inner.length≤1048576):FnD Tryz.prog 56 [.l 3 (sig.map Ctl.D),b.D] (.d (.b (fq sig b))):=⟨bX Tryz.func56,fun F w vs hv hF=>by
 obtain ⟨v1,t,rfl,h1,v2,t2,rfl,h2,h3⟩:=hv
 cases (show t2 = [] from h3)
 obtain ⟨cs,rfl,hb⟩:=ne h2
 refine (pt _ _ _ _ _ _ _ _ _ (sp.toV (by decide) h1) hb hl).mono ?_
 rintro e w' ⟨rfl,hX⟩
 exact ⟨_,rfl,hX,rfl⟩⟩
def yL (p:Bool) (b:Big):Big:=if p then b else eE
theorem ow (sig:List Ctl) (b:Big) (hl:b.inner.length≤1000):FnO Tryz.prog 116 [.l 3 (sig.map Ctl.D),b.D] [6,0] (yK (yL (ay sig b) b)++[.d (.b (ay sig b))]):=by
 have f1:=gZ sig b (by omega)
 refine dy Tryz.func116 (fun hw W0=>?_)
 cases hg:ay sig b
 ·rw [hg] at f1
  refine kgo ?_
  exact gP (hp:=.cons (.d rfl) (.cons .m (.cons .n (.cons (.d rfl) (.cons .n (.cons .n (.cons (.d rfl) .nil)))))))
 ·have f2:=jJ b (bG hg) hl
  rw [hg] at f1
  refine kgo ?_
  exact gP (hp:=.cons (.d rfl) (.cons (.k rfl rfl) (.cons (.k rfl rfl) (.cons (.d rfl) (.cons (.k rfl rfl) (.cons (.k rfl rfl) (.cons (.d rfl) .nil)))))))
end Go.Proofs.YtclpbhoekmecjaaGreatDoor
namespace Go.Proofs.YtclpbhoekmecjaaGreatDoor
open Go.RowKit
set_option linter.unusedVariables false
set_option maxRecDepth 100000
set_option maxHeartbeats 4000000
attribute [local irreducible] az Der At
theorem FnD.toL {P:Program} {f z e:Nat} {xs ds:List D} (h:FnD P f xs (.row z e ds)):FnD P f xs (.d (.l z ds)):=⟨h.enter,fun F w vs hv hF=>(h.calls F w vs hv hF).mono (by
 rintro e' w' ⟨v,rfl,hX,hr⟩
 refine ⟨v,rfl,hX,?_⟩
 rcases hr with ⟨hd,a0,hv⟩|⟨cells,h2,h3⟩
 ·subst hd
  exact ⟨a0,0,by rw [hv];rfl,Nat.le_refl _,by decide,fun _=>rfl,.inl rfl⟩
 have h1:(Tk.row z e ds).ok (Cx.of (fun b=>fresh w w' F b∧v.ownBlock≠some b)) w' v (fun b=>v.ownBlock=some b):=.inr ⟨cells,⟨h2.1,h2.2.imp _root_.id (fun ⟨g,cap,cur,q1,_,q2⟩=>⟨g,cap,cur,q1,Nat.zero_le _,q2⟩)⟩,fun g hg=>hg,h3⟩
 refine DV.keep (fun b hb=>?_) (fun _ _ _=>rfl) (cV h1)
 rcases hb with hb|hb
 ·exact hb.1
 ·rcases h2.2 with ⟨q3,_⟩|⟨g,cap,cur,q1,q2,q3,_⟩
  ·rw [q3] at hb;cases hb
  ·rw [q1] at hb;cases hb
   exact .inr ⟨q2,(Array.getElem?_eq_some_iff.1 q3).1⟩)⟩
def Pt.dat:Pt→D
 | .d r=>r
 | .tk (.row z _ ds)=>.l z ds
 | .tk (.deep z _ ds _)=>.l z ds
 | .tk (.own r _ _)=>r
 | .tk (.grw z _ ds)=>.l z ds
 | .tk _=>.i 0
theorem Pt.frz {w w':World} {F:BS} {T:Nat→BS} {p:Pt} {i:Nat} {u:Value} (hT:∀i b,T i b→w.heap.size≤b∧b<w'.heap.size) (h:p.ok w' (fun b=>fresh w w' F b∧∀j,¬T j b) (T i) u):DV w' (fresh w w' F) p.dat u:=by
 cases p with
 | d r=>exact DV.keep (fun b hb=>hb.1) (fun _ _ _=>rfl) h.2
 | tk t=>
  obtain ⟨hb,h⟩:=h
  cases t with
  | bx cs=>cases hb
  | mp m=>cases hb
  | abs p tag=>cases hb
  | bxs cs=>cases hb
  | bxt cs u=>cases hb
  | grw z e ds=>
   rcases h with ⟨hd,a0,hv⟩|⟨cells,U,h2,h3,h4,_,h6⟩
   ·subst hd
    exact ⟨a0,0,by rw [hv];rfl,Nat.le_refl _,by decide,fun _=>rfl,.inl rfl⟩
   ·have h1:(Tk.row z e ds).ok (Cx.of (T i)) w' u (T i):=.inr ⟨cells,h2,fun g hg=>(h3 g hg).1,fun j hj=>by
     obtain ⟨cs,q1,q2,q3⟩:=h6 j hj
     exact ⟨cs,q1,Rp.keep (fun b hb=>(h4 j b hb).1) (fun _ _ _=>rfl) _ _ (Ow.rp _ _ _ q2),q3⟩⟩
    exact DV.keep (fun b hb=>.inr (hT i b (hb.elim _root_.id _root_.id))) (fun _ _ _=>rfl) (cV h1)
  | own d pin tag=>
   have h1:=h.1
   cases d with
   | l z xs=>exact DV.keep (fun b hb=>.inr (hT i b hb)) (fun _ _ _=>rfl) (show DV _ _ (.l z xs) _ from Ow.rp _ _ _ h1)
   | _=>cases hb
  | row z e ds=>exact DV.keep (fun b hb=>hb.elim (fun h=>h.1) (fun h=>.inr (hT i b h))) (fun _ _ _=>rfl) (cV h)
  | deep z e ds ps=>
   rcases h with ⟨hd,_,a0,hv⟩|⟨cells,U,h2,h3,h4,_,h6,_⟩
   ·subst hd
    exact ⟨a0,0,by rw [hv];rfl,Nat.le_refl _,by decide,fun _=>rfl,.inl rfl⟩
   ·have h1:(Tk.row z e ds).ok (Cx.of (T i)) w' u (T i):=.inr ⟨cells,h2,fun g hg=>(h3 g hg).1,fun j hj=>by
     obtain ⟨cs,q1,q2,q3⟩:=h6 j hj
     exact ⟨cs,q1,Rp.keep (fun b hb=>(h4 j b hb).1) (fun _ _ _=>rfl) _ _ q2,q3⟩⟩
    exact DV.keep (fun b hb=>.inr (hT i b (hb.elim _root_.id _root_.id))) (fun _ _ _=>rfl) (cV h1)
theorem rX {w w':World} {F:BS} {T:Nat→BS} (hT:∀i b,T i b→w.heap.size≤b∧b<w'.heap.size):∀(ps:List Pt) (us:List Value) (m:Nat),us.length=ps.length→(∀(i:Nat) (p:Pt),ps[i]? = some p→∃u,us[i]? = some u∧p.ok w' (fun b=>fresh w w' F b∧∀j,¬T j b) (T (m+i)) u)→DVs w' (fresh w w' F) (ps.map Pt.dat) us:=by
 intro ps
 induction ps with
 | nil=>intro us m hl _;exact List.eq_nil_of_length_eq_zero hl
 | cons p ps ih=>
  intro us m hl h
  cases us with
  | nil=>simp at hl
  | cons u us=>
   obtain ⟨u',e1,h1⟩:=h 0 p rfl
   simp at e1
   subst e1
   exact ⟨_,_,rfl,Pt.frz hT h1,ih us (m+1) (by simpa using hl) (fun i p hp=>by
    have:=h (i+1) p (by simpa using hp)
    rw [show m+(i+1)=m+1+i by omega] at this
    simpa using this)⟩
theorem FnO.toD {P:Program} {f n:Nat} {xs:List D} {ps:List Pt} (h:FnO P f xs [n+1] ps) (hn:ps.length=n+1:=by rfl) (ht:((ps.map Pt.dat).all fun r=>!isT r)=true:=by rfl):FnD P f xs (.d (.t (ps.map Pt.dat))):=⟨h.enter,fun F w vs hv hF=>(h.calls F w vs hv hF).mono (by
 rintro e' w' ⟨us,T,rfl,hX,hl,hT,_,hel⟩
 have hd:=rX (F:=F) hT ps us 0 hl (fun i p hp=>by rw [Nat.zero_add];exact hel i p hp)
 refine ⟨_,rfl,hX,?_⟩
 show DV w' (fresh w w' F) (.t _) (DR (qL [n+1] us))
 have:qL [n+1] us = [.agg us.toArray]:=by
  unfold qL qL
  rw [List.take_of_length_le (by omega)]
 rw [this]
 exact ⟨us,rfl,uX _ _ ht hd⟩)⟩
theorem C6 {w:World} {S:BS}:∀(n:Nat) (ds:List D) (vs:List Value),DVs w S ds vs→DVs w S (ds.take n) (vs.take n)∧DVs w S (ds.drop n) (vs.drop n):=by
 intro n
 induction n with
 | zero=>intro ds vs h;simpa [DVs] using h
 | succ n ih=>
  intro ds vs h
  cases ds with
  | nil=>rw [show vs = [] from h];exact ⟨rfl,rfl⟩
  | cons r rs=>
   obtain ⟨v,t,rfl,h1,h2⟩:=h
   obtain ⟨h3,h4⟩:=ih rs t h2
   exact ⟨⟨v,_,rfl,h1,h3⟩,h4⟩
theorem FnO.toT {P:Program} {f n:Nat} {xs:List D} {ps:List Pt} {r:D} (h:FnO P f xs [n+1,0] (ps++[.d r])) (hn:ps.length=n+1:=by rfl) (ht:((ps.map Pt.dat).all fun r=>!isT r)=true:=by rfl):FnD P f xs (.tp [.t (ps.map Pt.dat),r]):=⟨h.enter,fun F w vs hv hF=>(h.calls F w vs hv hF).mono (by
 rintro e' w' ⟨us,T,rfl,hX,hl,hT,_,hel⟩
 have hd:=rX (F:=F) hT (ps++[.d r]) us 0 hl (fun i p hp=>by rw [Nat.zero_add];exact hel i p hp)
 have hlen:us.length=n+2:=by rw [hl];simp [hn]
 rw [List.map_append] at hd
 obtain ⟨h1,h2⟩:=C6 (n+1) _ _ hd
 rw [List.take_append_of_le_length (by simp [hn]),List.take_of_length_le (by simp [hn])] at h1
 rw [List.drop_append_of_le_length (by simp [hn]),List.drop_of_length_le (by simp [hn])] at h2
 obtain ⟨v,t,e1,h3,h4⟩:=h2
 cases (show t = [] from h4)
 refine ⟨_,rfl,hX,?_⟩
 have:qL [n+1,0] us = [.agg (us.take (n+1)).toArray,v]:=by
  unfold qL qL qL
  rw [e1];rfl
 rw [this]
 exact ⟨_,rfl,_,_,rfl,⟨_,rfl,uX _ _ ht h1⟩,_,_,rfl,h3,rfl⟩)⟩
theorem fK (b:Big) (hi:b.inner.length≤1000):FnD Tryz.prog 146 [b.D] (.row 1 9 ((b.inner.map Wr.name).map .s)):=by
 refine ai Tryz.func146 (fun hw W0=>?_)
 refine kgo ?_
 refine ar [8,9] (fun i:Nat=>i≤b.inner.length) (fun i=>b.inner.length - i) (fun i=>[(3,.sy (.k 20001)),(20001,.tk (.row 1 9 (((b.inner.take i).map Wr.name).map .s))),(10,.sy (.d (.i i)))]) 0 (Nat.zero_le _) (fun i hi=>?_)
 refine kgo ?_
 refine aV (fun h=>?_) (fun h=>?_)
 ·have hlt:i<b.inner.length:=by omega
  have hs:((b.inner.take (i+1)).map Wr.name).map D.s=((b.inner.take i).map Wr.name).map .s++[.s b.inner[i].name]:=by rw [List.take_succ_eq_append_getElem hlt,List.map_append,List.map_append];rfl
  refine kgo ?_
  exact ab (i+1) hlt (by omega)
 rw [List.take_of_length_le (by omega)]
 refine kgo ?_
 exact td
def io (b:Big) (l:Int):Int × ByteArray:=if l<b.edges then (l,⟨#[]⟩) else (0,b.outer.getD (l - b.edges).toNat ⟨#[]⟩)
abbrev tw (e:Int × ByteArray):D:=.t [.i e.1,.s e.2]
theorem zJ (b:Big) (l:Int) (h0:0≤b.edges∧b.edges≤1000) (h1:b.edges≤l→l - b.edges<b.outer.length) (ho:b.outer.length≤1000):FnD Tryz.prog 260 [b.D,.i l] (.d (tw (io b l))):=by
 refine ai Tryz.func260 (fun hw W0=>?_)
 refine kgo ?_
 refine aV (fun h=>?_) (fun h=>?_)
 ·rw [show io b l=(l,⟨#[]⟩) from if_pos h]
  refine kgo ?_
  exact ax
 ·have h1:=h1 (by omega)
  obtain ⟨q,hq⟩:=Int.eq_ofNat_of_zero_le (show 0≤l - b.edges by omega)
  have hql:q<b.outer.length:=by omega
  rw [show io b l=(0,b.outer[q]) from by unfold io;rw [if_neg h,hq,Int.toNat_natCast];simp [hql]]
  refine kgo ?_
  refine eV (n:=q) (fun _=>?_) rfl rfl (congrArg some hq)
  refine kgo ?_
  exact ax
theorem Bb (e:Int × ByteArray):FnD Tryz.prog 295 [tw e] (.d (tw e)):=by
 refine ai Tryz.func295 (fun hw W0=>?_)
 refine kgo ?_
 exact ax
theorem lA (s:ByteArray):(s.toList == (ByteArray.mk #[]).toList)=true↔s=⟨#[]⟩:=by
 rw [beq_iff_eq,ByteArray.toList_eq,ByteArray.toList_eq]
 constructor
 ·intro h
  exact ByteArray.ext (Array.ext' (by simpa using h))
 ·rintro rfl;rfl
theorem tB (b:Big) (g:Nat) (cs:List D) (e r:Int × ByteArray) (hct:(cs.all fun r=>!isT r)=true) (he : -1000≤e.1∧e.1≤1000) (hb:0≤b.edges∧b.edges≤1000) (hg:¬e.2=⟨#[]⟩→FnD Tryz.prog g ([.s e.2]++cs) (.d (tw r))):FnD Tryz.prog 296 [tw e,.p b.D,.p (.f g cs)] (.d (tw (if e.2=⟨#[]⟩ then (e.1+b.edges,⟨#[]⟩) else r))):=by
 refine ai Tryz.func296 (fun hw W0=>?_)
 refine kgo ?_
 refine cIf (fun h=>?_) (fun h=>?_)
 ·rw [if_pos ((lA _).1 h)]
  refine kgo ?_
  exact ax
 ·have h:¬e.2=⟨#[]⟩:=fun e=>by rw [(lA _).2 e] at h;cases h
  rw [if_neg h]
  have hg:=hg h
  refine kgo ?_
  exact ax
theorem zu (b:Big) (p y:Int) (g:Nat) (cs:List D) (hct:(cs.all fun r=>!isT r)=true) (hp:p≤1000) (hn:b.nodes.length≤1000) (hg:p<0→FnD Tryz.prog g ([.i p]++cs) (.d (.i y))):FnD Tryz.prog 297 [b.D,.i p,.f g cs] (.d (.i (if 0≤p then p+b.nodes.length else y))):=by
 refine ai Tryz.func297 (fun hw W0=>?_)
 refine kgo ?_
 refine aV (fun h=>?_) (fun h=>?_)
 ·rw [if_pos h]
  refine kgo ?_
  exact ax
 ·rw [if_neg h]
  have hg:=hg (by omega)
  refine kgo ?_
  exact ax
theorem nS (a:Big) (p:Int) (hp:0≤-1 - p∧-1 - p<a.sites.length) (hs:a.sites.length≤1000):FnD Tryz.prog 258 [.i p,.p a.D] (.d (.i (atI a.sites (-1 - p)))):=by
 refine ai Tryz.func258 (fun hw W0=>?_)
 refine kgo ?_
 exact ax
theorem mV (l:List ByteArray) (g:Nat) (cs:List D) (p:ByteArray→Bool) (hct:(cs.all fun r=>!isT r)=true) (hp:∀x∈l,FnD Tryz.prog g ([.s x]++cs) (.d (.b (p x)))):FnD Tryz.prog 221 [DS l,.f g cs] (.d (.i (pe p l))):=by
 refine ai Tryz.func221 (fun hw W0=>?_)
 have hl:=(wfM hw.1).1
 refine kgo ?_
 refine ar [0,1,7] (fun i:Nat=>i≤l.length∧(l.take i).any p=false) (fun i=>l.length - i) (fun i=>[(8,.sy (.d (.i i)))]) 0 ⟨Nat.zero_le _,rfl⟩ (fun i hi=>?_)
 refine kgo ?_
 refine aV (fun h=>?_) (fun h=>?_)
 ·have hlt:i<l.length:=by omega
  have f1:=hp _ (List.getElem_mem hlt)
  refine kgo ?_
  refine cIf (fun h2=>?_) (fun h2=>?_)
  ·refine kgo ?_
   rw [uI hlt h2 hi.2]
   exact ax
  ·refine kgo ?_
   exact ab (i+1) ⟨hlt,qw hlt hi.2 h2⟩ (by omega)
 refine kgo ?_
 rw [qC (vD (by omega) hi.2)]
 exact ax
theorem oB (l:List ByteArray) (g:Nat) (cs:List D) (p:ByteArray→Bool) (hct:(cs.all fun r=>!isT r)=true) (hp:∀x∈l,FnD Tryz.prog g ([.s x]++cs) (.d (.b (p x)))):FnD Tryz.prog 254 [DS l,.f g cs] (.d (.b (l.any p))):=by
 refine ai Tryz.func254 (fun hw W0=>?_)
 have f1:=mV l g cs p hct hp
 have hr:=gK p l
 have hq:=ri p l
 refine kgo ?_
 rw [← hq]
 exact ax
theorem qx (l:List ByteArray) (s:ByteArray):FnD Tryz.prog 255 [.s s,.p (DS l)] (.d (.b (rC l s))):=by
 refine ai Tryz.func255 (fun hw W0=>?_)
 have f1:=o9 l s
 refine kgo ?_
 exact ax
theorem ng (a c:List ByteArray):FnD Tryz.prog 222 [DS a,DS c] (.d (.b (a.any (rC c)))):=by
 refine ai Tryz.func222 (fun hw W0=>?_)
 have f1:=oB a 255 [.p (DS c)] (rC c) rfl (fun x _=>qx c x)
 refine kgo ?_
 refine rH 3 (DS c) ?_
 refine kgo ?_
 exact ax
theorem BQ (a c:List ByteArray):FnD Tryz.prog 142 [DS a,DS c] (.d (.b (eqS a c))):=by
 refine ai Tryz.func142 (fun hw W0=>?_)
 have hl:=(wfM hw.1).1
 have hl2:=(wfM hw.2.1).1
 refine kgo ?_
 refine cIf (fun h=>?_) (fun h=>?_)
 ·have h:¬(a.length:Int)=c.length:=by simpa using h
  refine kgo ?_
  rw [qt h]
  exact ax
 have hlen:(a.length:Int)=c.length:=by simpa using h
 refine kgo ?_
 refine ar [0,1,12] (fun i:Nat=>i≤a.length∧(List.range i).all (kc a c)=true) (fun i=>a.length - i) (fun i=>[(13,.sy (.d (.i i)))]) 0 ⟨Nat.zero_le _,rfl⟩ (fun i hi=>?_)
 refine kgo ?_
 refine aV (fun h=>?_) (fun h=>?_)
 ·have hlt:i<a.length:=by omega
  have hlt2:i<c.length:=by omega
  have hs:=jH a c i hlt hlt2
  refine kgo ?_
  refine cIf (fun h3=>?_) (fun h3=>?_)
  ·refine kgo ?_
   rw [qq (c:=c) i hlt (by rw [hs];simpa using h3)]
   exact ax
  ·refine kgo ?_
   exact ab (i+1) ⟨hlt,by rw [cW,hi.2,hs];simpa using h3⟩ (by omega)
 refine kgo ?_
 rw [show eqS a c=true from by unfold eqS;rw [ff _ _ i (by omega) hi.1 hi.2,Bool.and_true];exact decide_eq_true (by omega)]
 exact ax
theorem FX (a b:Big) (hi:a.inner.length≤1000):FnD Tryz.prog 224 [a.D,b.D] (.d (.b (decide ((a.sites.length:Int)=b.roots) && eqS (a.inner.map Wr.name) b.outer))):=by
 have f1:=(fK a hi).toL
 have f2:=BQ (a.inner.map Wr.name) b.outer
 refine ai Tryz.func224 (fun hw W0=>?_)
 refine kgo ?_
 cases hd:decide ((a.sites.length:Int)=b.roots)
 ·refine kgo ?_
  exact ax
 ·refine kgo ?_
  exact ax
theorem w6 {α:Type} (f:Nat→α) (i:Nat):(List.range (i+1)).map f=(List.range i).map f++[f i]:=by rw [List.range_succ,List.map_append];rfl
theorem xH (n:Nat) (l:List ByteArray) (hn:n≤1000) (hl:l.length≤1000):FnD Tryz.prog 174 [.i n,DS l] (.d (Big.D ⟨n,[],((List.range n).map fun i:Nat=>-1 - (i:Int)),0,l,(List.range l.length).map fun i:Nat=>⟨l.getD i ⟨#[]⟩,i⟩⟩)):=by
 have f1:=nE l hl
 refine ai Tryz.func174 (fun hw W0=>?_)
 refine kgo ?_
 refine nx 10005 1 20001 131 ?_
 refine nx 10005 2 20002 3 ?_
 refine nx 10005 5 20005 133 ?_
 refine ar [1,4,5,13,10011,20001,20005] (fun i:Nat=>i≤n) (fun i=>n - i) (fun i=>[(14,.sy (.d (.i i))),(10005,.tk (.bx [.d (.i n),.k 20001,.k 20002,.d (.i 0),.k 10011,.k 20005])),(20002,.tk (.row 1 3 (((List.range i).map fun i:Nat=>-1 - (i:Int)).map .i)))]) 0 (Nat.zero_le _) (fun i hi=>?_)
 refine kgo ?_
 refine aV (fun h=>?_) (fun h=>?_)
 ·have hlt:i<n:=by omega
  have hs:((List.range (i+1)).map fun i:Nat=>-1 - (i:Int)).map D.i=((List.range i).map fun i:Nat=>-1 - (i:Int)).map D.i++[.i (-1 - i)]:=by rw [w6,List.map_append];rfl
  have hr:=List.length_range (n:=i)
  refine kgo ?_
  exact ab (i+1) hlt (by omega)
 obtain rfl:i=n:=by omega
 refine kgo ?_
 refine ar [4,5,25,26,10011,20001,20002] (fun j:Nat=>j≤l.length) (fun j=>l.length - j) (fun j=>[(27,.sy (.d (.i j))),(10005,.tk (.bx [.d (.i i),.k 20001,.k 20002,.d (.i 0),.k 10011,.k 20005])),(20005,.tk (.row 2 133 (((List.range j).map fun i:Nat=>(⟨l.getD i ⟨#[]⟩,i⟩:Wr)).map Wr.D)))]) 0 (Nat.zero_le _) (fun j hj=>?_)
 refine kgo ?_
 refine aV (fun h=>?_) (fun h=>?_)
 ·have hlt:j<l.length:=by omega
  have hs:((List.range (j+1)).map fun i:Nat=>(⟨l.getD i ⟨#[]⟩,i⟩:Wr)).map Wr.D=((List.range j).map fun i:Nat=>(⟨l.getD i ⟨#[]⟩,i⟩:Wr)).map Wr.D++[Wr.D ⟨l[j],j⟩]:=by rw [w6,List.map_append];simp [hlt]
  have hr:=List.length_range (n:=j)
  refine kgo ?_
  exact ab (j+1) hlt (by omega)
 obtain rfl:j=l.length:=by omega
 refine bP (aB (aB (bN (bD ?_))))
 refine nK 10005 1 ?_
 refine nK 10005 2 ?_
 refine nK 10005 4 ?_
 refine nK 10005 5 ?_
 refine kgo ?_
 exact ax
end Go.Proofs.YtclpbhoekmecjaaGreatDoor
namespace Go.Proofs.YtclpbhoekmecjaaGreatDoor
open Go.RowKit
set_option linter.unusedVariables false
set_option linter.unusedSimpArgs false
mutual
def vg:D→Bool
 | .i _=>true
 | .s _=>true
 | .b _=>true
 | .n _=>true
 | .any=>true
 | .t ds=>Bt ds
 | _=>false
def Bt:List D→Bool
 | []=>true
 | d :: ds=>vg d && Bt ds
end
mutual
theorem Aq {w:World} {S S':BS}:∀(d:D) (cs:List Value),vg d=true→Rp w S d cs→Rp w S' d cs
 | .i _,cs,_,r=>r
 | .s _,cs,_,r=>r
 | .b _,cs,_,r=>r
 | .n _,cs,_,r=>r
 | .any,cs,_,r=>r
 | .t ds,cs,h,r=>uG ds cs h r
 | .l _ _,_,h,_=>by cases h
 | .p _,_,h,_=>by cases h
 | .f _ _,_,h,_=>by cases h
theorem uG {w:World} {S S':BS}:∀(ds:List D) (cs:List Value),Bt ds=true→RpL w S ds cs→RpL w S' ds cs
 | [],cs,_,r=>r
 | d :: ds,cs,h,⟨c,e,h1,h2,h3⟩=>by
  have h':(vg d && Bt ds)=true:=h
  rw [Bool.and_eq_true] at h'
  exact ⟨c,e,h1,Aq d c h'.1 h2,uG ds e h'.2 h3⟩
end
theorem Di {w:World} {S S':BS} {d:D} {v:Value} (h:vg d=true) (r:DV w S d v):DV w S' d v:=by
 cases d with
 | t ds=>obtain ⟨cs,h1,h2⟩:=r;exact ⟨cs,h1,uG ds cs h h2⟩
 | _=>exact Aq (S:=S) _ _ h r
def Fh:Pt→Prop
 | .d r=>vg r=true
 | .tk (.row _ _ ds)=>∀d∈ds,vg d=true
 | .tk (.deep _ _ _ _)=>True
 | .tk (.own _ _ _)=>True
 | .tk (.grw _ _ _)=>True
 | _=>False
theorem C9 {w:World} {G G' S:BS} {p:Pt} {u:Value} (hp:Fh p) (h:p.ok w G S u):p.ok w G' S u:=by
 cases p with
 | d r=>exact ⟨h.1,Di hp h.2⟩
 | tk t=>
  obtain ⟨hb,h⟩:=h
  refine ⟨hb,?_⟩
  cases t with
  | bx cs=>cases hb
  | mp m=>cases hb
  | abs p tag=>cases hb
  | bxs cs=>cases hb
  | bxt cs u=>cases hb
  | grw z e ds=>exact h
  | own d pin tag=>exact h
  | deep z e ds ps=>exact h
  | row z e ds=>
   rcases h with h|⟨cells,h1,h2,h3⟩
   ·exact .inl h
   ·exact .inr ⟨cells,h1,h2,fun j hj=>by
     obtain ⟨cs,q1,q2,q3⟩:=h3 j hj
     exact ⟨cs,q1,Aq _ _ (hp _ (List.getElem_mem hj)) q2,q3⟩⟩
def tF (c:Cx) (σ:Env):BS:=fun b=>c.F b∨∃i t,au σ i=some (.tk t)∧c.T i b
def BY:Option In→Option D
 | some (.tk (.row z _ ds))=>some (.l z ds)
 | some (.tk (.deep z _ ds _))=>some (.l z ds)
 | some (.tk (.own (.l z ds) _ _))=>some (.l z ds)
 | some (.tk (.grw z _ ds))=>some (.l z ds)
 | _=>none
def A1 (σ:Env):List Sy→Option (List D)
 | []=>some []
 | s :: ss=>match (match s with | .k i=>BY (au σ i) | .d r=>(match isT r with|true=>none|false=>some r)|_=>none),A1 σ ss with
  | some r,some rs=>some (r :: rs)
  | _,_=>none
def FY (σ:Env):Sy→Option D
 | .k i=>BY (au σ i)
 | .ag ss=>(A1 σ ss).map .t
 | s=>s.arg
def DW:Sy→List Nat
 | .k i=>[i]
 | .ag ss=>iw ss
 | _=>[]
def F9 (σ:Env):List Operand→Option (List D)
 | []=>some []
 | x :: xs=>match (ev σ x).bind (FY σ),F9 σ xs with
  | some r,some rs=>some (r :: rs)
  | _,_=>none
def C1 (σ:Env):List Operand→List Nat
 | []=>[]
 | x :: xs=>kx x++((((ev σ x).map DW).getD [])++C1 σ xs)
theorem wA {W0:cf} {N:Nat} {a:Act} {w:World} {c:Cx} {σ:Env} (h:aL W0 N σ a w c) {i:Nat} {r:D} (hr:BY (au σ i)=some r):isT r=false∧DV w (tF c σ) r (c.ρ i):=by
 cases hl:au σ i with
 | none=>rw [hl] at hr;cases hr
 | some x=>
  rw [hl] at hr
  cases x with
  | sy s=>cases hr
  | no=>cases hr
  | tk t=>
   obtain ⟨hA,hT,_⟩:=h.tok i t hl
   cases t with
   | bx cs=>cases hr
   | mp m=>cases hr
   | abs p tag=>cases hr
   | bxs cs=>cases hr
   | bxt cs u=>cases hr
   | grw z e ds=>
    cases hr
    refine ⟨rfl,?_⟩
    rcases hT with ⟨hd,a0,hv⟩|⟨cells,U,h2,h3,h4,_,h6⟩
    ·subst hd
     exact ⟨a0,0,by rw [hv];rfl,Nat.le_refl _,by decide,fun _=>rfl,.inl rfl⟩
    ·have h1:(Tk.row z e ds).ok (Cx.of (c.T i)) w (c.ρ i) (c.T i):=.inr ⟨cells,h2,fun g hg=>(h3 g hg).1,fun j hj=>by
      obtain ⟨cs,q1,q2,q3⟩:=h6 j hj
      exact ⟨cs,q1,Rp.keep (fun b hb=>(h4 j b hb).1) (fun _ _ _=>rfl) _ _ (Ow.rp _ _ _ q2),q3⟩⟩
     exact DV.keep (fun b hb=>.inr ⟨i,_,hl,hb.elim _root_.id _root_.id⟩) (fun _ _ _=>rfl) (cV h1)
   | own d pin tag=>
    cases d with
    | l z ds=>
     cases hr
     exact ⟨rfl,DV.keep (fun b hb=>.inr ⟨i,_,hl,hb⟩) (fun _ _ _=>rfl) (show DV _ _ (.l z ds) _ from Ow.rp _ _ _ hT.1)⟩
    | _=>cases hr
   | row z e ds=>
    cases hr
    exact ⟨rfl,DV.keep (fun b hb=>hb.elim .inl (fun hb=>.inr ⟨i,_,hl,hb⟩)) (fun _ _ _=>rfl) (cV hT)⟩
   | deep z e ds ps=>
    cases hr
    refine ⟨rfl,?_⟩
    rcases hT with ⟨hd,_,a0,hv⟩|⟨cells,U,h2,h3,h4,_,h6,_⟩
    ·subst hd
     exact ⟨a0,0,by rw [hv];rfl,Nat.le_refl _,by decide,fun _=>rfl,.inl rfl⟩
    ·have h1:(Tk.row z e ds).ok (Cx.of (c.T i)) w (c.ρ i) (c.T i):=.inr ⟨cells,h2,fun g hg=>(h3 g hg).1,fun j hj=>by
      obtain ⟨cs,q1,q2,q3⟩:=h6 j hj
      exact ⟨cs,q1,Rp.keep (fun b hb=>(h4 j b hb).1) (fun _ _ _=>rfl) _ _ q2,q3⟩⟩
     exact DV.keep (fun b hb=>.inr ⟨i,_,hl,hb.elim _root_.id _root_.id⟩) (fun _ _ _=>rfl) (cV h1)
theorem Fz {w:World} {S:BS} {r:D} {v:Value} (h:isT r=false) (hv:DV w S r v):Rp w S r [v]:=by
 cases r with
 | t ds=>cases h
 | _=>exact hv
theorem BP {W0:cf} {N:Nat} {a:Act} {w:World} {c:Cx} {σ σ':Env} (h:aL W0 N σ' a w c):∀(ss:List Sy) (rs:List D) (vs:List Value),A1 σ ss=some rs→(∀κ∈iw ss,au σ' κ=au σ κ)→Sy.oks c w ss vs→RpL w (tF c σ') rs vs:=by
 intro ss
 induction ss with
 | nil=>intro rs vs hr _ hv;cases hr;exact hv
 | cons s ss ih=>
  intro rs vs hr hk hv
  obtain ⟨y,t,rfl,hy,ht⟩:=hv
  unfold A1 at hr
  split at hr
  ·rename_i r rs' h1 h2
   cases hr
   refine ⟨[y],t,rfl,?_,ih rs' t h2 (fun κ hκ=>hk κ (by cases s <;> simp [iw,kSy,hκ])) ht⟩
   split at h1
   ·rename_i i
    rw [← hk i (by simp [iw,kSy])] at h1
    obtain ⟨q1,q2⟩:=wA h h1
    rw [hy.2]
    exact Fz q1 q2
   ·rename_i r'
    split at h1
    ·cases h1
    ·rename_i hT
     cases h1
     exact Fz hT (DV.keep (fun b hb=>.inl hb) (fun _ _ _=>rfl) hy)
   ·cases h1
  ·cases hr
theorem BZ {W0:cf} {N:Nat} {a:Act} {w:World} {c:Cx} {σ σ':Env} (h:aL W0 N σ' a w c) {s:Sy} {r:D} (hr:FY σ s=some r) (hk:∀κ∈DW s,au σ' κ=au σ κ) {v:Value} (hv:s.ok c w v):DV w (tF c σ') r v:=by
 have other:s.arg=some r→DV w (tF c σ') r v:=fun h1=>DV.keep (fun b hb=>.inl hb) (fun _ _ _=>rfl) (Bg h1 hv)
 cases s with
 | k i=>
  have hr':BY (au σ i)=some r:=hr
  rw [← hk i (by simp [DW])] at hr'
  rw [hv.2]
  exact (wA h hr').2
 | ag ss=>
  have hr':(A1 σ ss).map D.t=some r:=hr
  rw [Option.map_eq_some_iff] at hr'
  obtain ⟨rs,h1,rfl⟩:=hr'
  obtain ⟨vs,rfl,h2⟩:=hv
  exact ⟨vs,rfl,BP h ss rs vs h1 hk h2⟩
 | _=>exact other hr
theorem Bk {W0:cf} {N:Nat} {a:Act} {w:World} {c:Cx} {σ σ':Env} (h:aL W0 N σ' a w c):∀(xs:List Operand) (ds:List D),F9 σ xs=some ds→(∀κ∈C1 σ xs,au σ' κ=au σ κ)→DVs w (tF c σ') ds (xs.map a.eval):=by
 intro xs
 induction xs with
 | nil=>intro ds he _;cases he;exact rfl
 | cons x xs ih=>
  intro ds he hk
  unfold F9 at he
  split at he
  ·rename_i r rs h1 h2
   cases he
   rw [Option.bind_eq_some_iff] at h1
   obtain ⟨s,h3,h4⟩:=h1
   refine ⟨_,_,rfl,BZ h h4 (fun κ hκ=>hk κ ?_) (av h (af h3 (fun κ hκ=>hk κ (by simp [C1,hκ])))),ih rs h2 (fun κ hκ=>hk κ (by simp [C1,hκ]))⟩
   simp [C1,h3,hκ]
  ·cases he
theorem Bi {W0:cf} {N:Nat} {a:Act} {w:World} {c:Cx} {σ:Env} (h:aL W0 N σ a w c):∀b,tF c σ b→b<w.heap.size:=fun b hb=>hb.elim (h.lt b) (fun ⟨i,t,hi,hT⟩=>((h.tok i t hi).2.2 b hT).2.1)
section
variable {P:Program} {ops:Array Oper} {W0:cf} {N:Nat} {Fin:Us→Env→Prop} {os:List Oper} {us:Us} {pk fk:List Nat} {σ:Env} {g:Option (Nat × Bool)} {gk:List Nat} {d ty ty' f:Nat} {pos:String} {after:Array Edge} {at':Array TypeId} {xs:List Operand} {ds:List D}
theorem ig {r:D} (h:Der P ops W0 N Fin os (us++[((d :: (gk++C1 σ xs))++pk,([d])++fk)]) [] [] ((d,.sy (.d r)) :: σ)) (hx:F9 σ xs=some ds:=by rfl) (hf:FnD P f ds (.d r):=by assumption) (hr:vg r=true:=by rfl) (hg:gst ops σ g=some (true,gk):=by rfl) (hN:Nat.blt d N=true:=by rfl) (hs:aM σ d=true:=by rfl):Der P ops W0 N Fin (⟨some d,.call { callee:=.value (.func f),args:=xs.toArray,argTypes:=at' },ty,pos,after,g⟩ :: os) us pk fk σ:=
 me (.d r) (C1 σ xs) [] (fun σ' c a w hk hc=>by
  unfold Oper.wp
  rw [b9 hf.enter rfl]
  refine (hf.calls (tF c σ') w _ (Bk hc xs ds hx hk) (Bi hc)).mono ?_
  rintro e w' ⟨v,rfl,hX,hv⟩
  exact ⟨v,_,rfl,hc.fresh hX,Di hr hv⟩) h hg hN hs rfl
theorem ur {sh:List Nat} {ps:List Pt} (hp:∀p∈ps,Fh p) (h:Der P ops W0 N Fin os (us++[((d :: (gk++(((List.range ps.length).map fun k=>30000+1000 * k+d)++C1 σ xs)))++pk,(d :: (nr d 0 ps).map Prod.fst)++fk)]) [] [] ((d,.sy (EL (CH sh (BL d 0 ps)))) :: (nr d 0 ps++σ))) (hx:F9 σ xs=some ds:=by rfl) (hf:FnO P f ds sh ps:=by assumption) (hi:((List.range ps.length).all fun k=>(au σ (30000+1000 * k+d)).isNone)=true:=by rfl) (hg:gst ops σ g=some (true,gk):=by rfl) (hN:Nat.blt d N=true:=by rfl) (hs:aM (nr d 0 ps++σ) d=true:=by rfl) (hu:(nr d 0 ps).all (fun p=>!(Nat.beq p.1 d))=true:=by rfl):Der P ops W0 N Fin (⟨some d,.call { callee:=.value (.func f),args:=xs.toArray,argTypes:=at' },ty,pos,after,g⟩ :: os) us pk fk σ:=
 me (EL (CH sh (BL d 0 ps))) (((List.range ps.length).map fun k=>30000+1000 * k+d)++C1 σ xs) (nr d 0 ps) (fun σ' c a w hk hc=>by
  unfold Oper.wp
  rw [b9 hf.enter rfl]
  refine (hf.calls (tF c σ') w _ (Bk hc xs ds hx (fun κ hκ=>hk κ (by simp [hκ]))) (Bi hc)).mono ?_
  rintro e' w' ⟨vs,T,rfl,hX,hl,hT,hdis,hel⟩
  have hc1:=hc.grow hX (fun b=>fresh w w' c.F b∧∀j,¬T j b) (fun b hb=>⟨.inl hb,fun j e=>by have:=hc.lt b hb;have e2:w.heap.size≤b:=(hT j b e).1;omega⟩) (fun _ h=>h.1.imp id (fun h=>h.1)) (fun b hb=>hb.1.elim (fun h'=>Nat.lt_of_lt_of_le (hc.lt b h') (Below.size hX)) (fun h=>h.2))
  obtain ⟨c',h1,h2,h3,h4,h5⟩:=n8 hc1 d w.heap.size T hc.ext.size (fun j u hj b hb=>((hc.tok j u hj).2.2 b hb).2.1) (fun i b hb=>⟨fun hF=>hF.2 i hb,hT i b hb⟩) hdis ps 0 vs (fun k=>by
   rcases Nat.lt_or_ge k ps.length with hk'|hk'
   ·left
    rw [Nat.zero_add,hk _ (List.mem_append_left _ (List.mem_map.2 ⟨k,List.mem_range.2 hk',rfl⟩))]
    have:=List.all_eq_true.1 hi k (List.mem_range.2 hk')
    simpa using this
   ·exact .inr hk') hl (fun k p hp'=>by
    rw [Nat.zero_add]
    obtain ⟨u,q1,q2⟩:=hel k p hp'
    exact ⟨u,q1,C9 (hp p (List.mem_of_getElem? hp')) q2⟩)
  exact ⟨_,c',rfl,h1,un _ _ (Av sh _ _ h5)⟩) h hg hN hs hu
end
end Go.Proofs.YtclpbhoekmecjaaGreatDoor
namespace Go.Proofs.YtclpbhoekmecjaaGreatDoor
open Go.RowKit
set_option linter.unusedVariables false
set_option linter.unusedSimpArgs false
mutual
def EK:D→Bool
 | .any=>false
 | .t ds=>A4 ds
 | _=>true
def A4:List D→Bool
 | []=>true
 | d :: ds=>EK d && A4 ds
end
theorem Ow.mono {w:World} {d:D} {T T':BS} {cs:List Value} (h:Ow w d T cs) (hT:∀b,T b→T' b):Ow w d T' cs:=Ow.keep (Nat.le_refl _) d T T' cs hT (fun _ _ _=>rfl) h
theorem OwL.mono {w:World} {ds:List D} {T T':BS} {cs:List Value} (h:OwL w ds T cs) (hT:∀b,T b→T' b):OwL w ds T' cs:=OwL.keep (Nat.le_refl _) ds T T' cs hT (fun _ _ _=>rfl) h
mutual
def GM:D→List D
 | .t ds=>GN ds
 | d=>[d]
def GN:List D→List D
 | []=>[]
 | d :: ds=>GM d++GN ds
end
theorem OwL.split {w:World}:∀(xs ys:List D) (V:BS) (cs:List Value),OwL w (xs++ys) V cs→∃(T1 T2:BS) (c e:List Value),(∀x,T1 x→V x)∧(∀x,T2 x→V x)∧(∀x,T1 x→¬T2 x)∧cs=c++e∧OwL w xs T1 c∧OwL w ys T2 e:=by
 intro xs
 induction xs with
 | nil=>exact fun ys V cs h=>⟨fun _=>False,V,[],cs,fun _ h=>h.elim,fun _ h=>h,fun _ h=>h.elim,rfl,rfl,h⟩
 | cons d xs ih=>
  intro ys V cs ⟨T1,T2,c,e,h1,h2,h3,h4,h5,h6⟩
  obtain ⟨U1,U2,c',e',k1,k2,k3,k4,k5,k6⟩:=ih ys T2 e h6
  refine ⟨fun x=>T1 x∨U1 x,U2,c++c',e',fun x hx=>hx.elim (h1 x) (fun h=>h2 x (k1 x h)),fun x hx=>h2 x (k2 x hx),fun x hx hu=>hx.elim (fun h=>h3 x h (k2 x hu)) (fun h=>k3 x h hu),by rw [h4,k4,List.append_assoc],⟨T1,U1,c,c',fun _ h=>.inl h,fun _ h=>.inr h,fun x h hu=>h3 x h (k1 x hu),rfl,h5,k5⟩,k6⟩
mutual
theorem DJ {w:World}:∀(d:D) (V:BS) (cs:List Value),OwL w (GM d) V cs→Ow w d V cs
 | .t ds,V,cs,h=>AT ds V cs h
 | .i n,V,cs,h=>mY h
 | .s n,V,cs,h=>mY h
 | .b n,V,cs,h=>mY h
 | .n z,V,cs,h=>mY h
 | .l z xs,V,cs,h=>mY h
 | .p d,V,cs,h=>mY h
 | .f g ds,V,cs,h=>mY h
 | .any,V,cs,h=>mY h
theorem AT {w:World}:∀(ds:List D) (V:BS) (cs:List Value),OwL w (GN ds) V cs→OwL w ds V cs
 | [],V,cs,h=>h
 | d :: ds,V,cs,h=>by
  obtain ⟨T1,T2,c,e,h1,h2,h3,h4,h5,h6⟩:=OwL.split (GM d) (GN ds) V cs h
  exact ⟨T1,T2,c,e,h1,h2,h3,h4,DJ d T1 c h5,AT ds T2 e h6⟩
theorem mY {w:World} {d:D} {V:BS} {cs:List Value} (h:OwL w [d] V cs):Ow w d V cs:=by
 obtain ⟨T1,T2,c,e,h1,h2,h3,h4,h5,h6⟩:=h
 have:e = []:=h6
 subst this
 rw [List.append_nil] at h4
 subst h4
 exact h5.mono h1
end
theorem AU {w:World}:∀(es:List D) (vs:List Value) (T:Nat→BS),vs.length=es.length→(∀(i:Nat) (d:D),es[i]? = some d→∃u,vs[i]? = some u∧Ow w d (T i) [u])→(∀i j,i≠j→∀b,T i b→¬T j b)→OwL w es (fun b=>∃i,T i b) vs:=by
 intro es
 induction es with
 | nil=>exact fun vs T h _ _=>List.eq_nil_of_length_eq_zero h
 | cons d es ih=>
  intro vs T hl h hoff
  cases vs with
  | nil=>simp at hl
  | cons v vs=>
   obtain ⟨u,h1,h2⟩:=h 0 d (by simp)
   simp at h1
   subst h1
   have h3:=ih vs (fun i=>T (i+1)) (by simpa using hl) (fun i d' hi=>by
    obtain ⟨u,q1,q2⟩:=h (i+1) d' (by simpa using hi)
    exact ⟨u,by simpa using q1,q2⟩) (fun i j hij=>hoff (i+1) (j+1) (by omega))
   exact ⟨T 0,fun b=>∃i,T (i+1) b,[v],vs,fun _ h=>⟨0,h⟩,fun _ ⟨i,h⟩=>⟨i+1,h⟩,fun b h0 ⟨i,h⟩=>hoff 0 (i+1) (by omega) b h0 h,rfl,h2,h3⟩
theorem Hg {w w':World} {V:BS} (hsz:w.heap.size≤w'.heap.size):∀(ds:List D) (n:Nat) (U:BS) (z b o:Nat) (r:D) (cs':List Value),OwR w ds U z b o→n<ds.length→(∀c,U c→c<w.heap.size→w'.heap[c]? = w.heap[c]?)→(∀j,j<o+n * z∨o+n * z+z≤j→w'.cell? ⟨b,j,none⟩=w.cell? ⟨b,j,none⟩)→Ow w' r V cs'→cs'.length=z→bE w' b (o+n * z) cs'→(∀c,V c→¬U c)→OwR w' (ds.set n r) (fun x=>U x∨V x) z b o
 | [],n,U,z,b,o,r,cs',h,hn,_,_,_,_,_,_=>absurd hn (Nat.not_lt_zero _)
 | d :: ds,0,U,z,b,o,r,cs',⟨U1,U2,h1,h2,h3,⟨cs,h4,h5,h6⟩,h7⟩,hn,hag,hc,hr,hl,hca,hV=>by
  rw [Nat.zero_mul,Nat.add_zero] at hc hca
  exact ⟨V,U2,fun _ h=>.inr h,fun x h=>.inl (h2 x h),fun x hv hu=>hV x hv (h2 x hu),⟨cs',hl,hr,hca⟩,OwR.keep2 hsz ds U2 z b (o+z) (fun c hcu hcl=>hag c (h2 c hcu) hcl) (fun j hj=>hc j (.inr hj)) h7⟩
 | d :: ds,n+1,U,z,b,o,r,cs',⟨U1,U2,h1,h2,h3,⟨cs0,h4,h5,h6⟩,h7⟩,hn,hag,hc,hr,hl,hca,hV=>by
  have e:o+z+n * z=o+(n+1) * z:=by rw [Nat.succ_mul];omega
  have hz:z≤(n+1) * z:=Nat.le_mul_of_pos_left z (Nat.succ_pos n)
  refine ⟨U1,fun x=>U2 x∨V x,fun x h=>.inl (h1 x h),fun x h=>h.imp (h2 x) id,fun x hx hu=>hu.elim (h3 x hx) (fun hv=>hV x hv (h1 x hx)),⟨cs0,h4,Ow.keep hsz d U1 U1 cs0 (fun _ h=>h) (fun c hcu hcl=>hag c (h1 c hcu) hcl) h5,fun j u hj=>?_⟩,Hg hsz ds n U2 z b (o+z) r cs' h7 (by simpa using hn) (fun c hcu hcl=>hag c (h2 c hcu) hcl) (fun j hj=>hc j (by rw [e] at hj;exact hj)) hr hl (by rw [e];exact hca) (fun c hv hu=>hV c hv (h2 c hu))⟩
  have hj':=(List.getElem?_eq_some_iff.1 hj).1
  exact (hc (o+j) (.inl (by omega))).trans (h6 j u hj)
theorem aL.eatM {W0:cf} {N:Nat} {σ:Env} {a:Act} {w w':World} {c:Cx} (h:aL W0 N σ a w c) {i:Nat} {t u:Tk} (ks:List Nat) (hi:au σ i=some (.tk t)) (hks:∀κ∈ks,κ≠i∧∃t,au σ κ=some (.tk t)) (hg:Chg (c.T i) w w') (hu:fR c.F w w'→u.ok c w' (c.ρ i) (fun b=>c.T i b∨∃κ,κ∈ks∧c.T κ b)) :
 aL W0 N (((i,.tk u) :: ks.map fun κ=>(κ,.no))++σ) a w' { c with T:=fun j=>if j=i then (fun b=>c.T i b∨∃κ,κ∈ks∧c.T κ b) else c.T j }:=by
 obtain ⟨hAi,_,hti⟩:=h.tok i t hi
 have hag:=h.agF hg (fun b hb=>(hti b hb).1)
 have lk:∀j,au (((i,.tk u) :: ks.map fun κ=>(κ,In.no))++σ) j=if i=j then some (.tk u) else if j∈ks then some .no else au σ j:=fun j=>by
  rw [List.cons_append,ah]
  split
  ·rfl
  ·rw [ii]
   have:∀(ks:List Nat),au (ks.map fun κ=>(κ,In.no)) j=if j∈ks then some .no else none:=by
    intro ks
    induction ks with
    | nil=>rfl
    | cons k ks ih=>
     rw [List.map_cons,ah,ih]
     by_cases e:k=j
     ·subst e;simp
     ·rw [if_neg e];simp [Ne.symm e]
   rw [this]
   split <;> rfl
 have hle:c.Le { c with T:=fun j=>if j=i then (fun b=>c.T i b∨∃κ,κ∈ks∧c.T κ b) else c.T j }:=⟨fun _ h=>h,fun _ h=>⟨h,rfl⟩⟩
 have hV:∀b,(c.T i b∨∃κ,κ∈ks∧c.T κ b)→¬c.F b∧b<w.heap.size∧(W0.M b∨W0.w.heap.size≤b):=fun b hb=>by
  rcases hb with hb|⟨κ,hκ,hb⟩
  ·exact hti b hb
  ·obtain ⟨_,t',ht'⟩:=hks κ hκ
   exact (h.tok κ t' ht').2.2 b hb
 refine ⟨h.ext' hg (fun b hb=>(hti b hb).2.2),h.old,fun b hb=>Nat.lt_of_lt_of_le (h.lt b hb) hg.size,h.size,h.defers,fun j hj=>?_,fun j x hj=>?_,fun j k x y hj hk hne b=>?_,fun t' s ht'=>?_⟩
 ·rw [lk]
  split
  ·simp
  ·split
   ·simp
   ·exact h.all j hj
 ·rw [lk] at hj
  dsimp only
  split at hj
  ·rename_i e
   subst e
   cases hj
   rw [if_pos rfl]
   exact ⟨hAi,Tk.keep hle (Nat.le_refl _) (fun _ _ _=>rfl) (fun _ _ _=>rfl) u _ (hu hag),fun b hb=>⟨(hV b hb).1,Nat.lt_of_lt_of_le (hV b hb).2.1 hg.size,(hV b hb).2.2⟩⟩
  ·rename_i hne
   split at hj
   ·cases hj
   ·obtain ⟨k1,k2,k3⟩:=h.tok j x hj
    rw [if_neg (Ne.symm hne)]
    exact ⟨k1,Tk.keep hle hg.size hag (fun b hb hl=>hg.block b hl (fun hs=>h.off i j t x hi hj hne b hs hb)) x _ k2,fun b hb=>⟨(k3 b hb).1,Nat.lt_of_lt_of_le (k3 b hb).2.1 hg.size,(k3 b hb).2.2⟩⟩
 ·rw [lk] at hj hk
  have key:∀k y,i≠k→k ∉ ks→au σ k=some (.tk y)→∀b,(c.T i b∨∃κ,κ∈ks∧c.T κ b)→¬c.T k b:=fun k y hik hkk hk b hb=>by
   rcases hb with hb|⟨κ,hκ,hb⟩
   ·exact h.off i k t y hi hk hik b hb
   ·obtain ⟨_,t',ht'⟩:=hks κ hκ
    exact h.off κ k t' y ht' hk (fun e=>hkk (e ▸ hκ)) b hb
  dsimp only
  by_cases e1:i=j
  ·subst e1
   rw [if_neg hne] at hk
   split at hk
   ·cases hk
   ·rename_i hkk
    rw [if_pos rfl,if_neg (Ne.symm hne)]
    exact key k y hne hkk hk b
  ·rw [if_neg e1] at hj
   split at hj
   ·cases hj
   ·rename_i hjk
    rw [if_neg (Ne.symm e1)]
    by_cases e2:i=k
    ·subst e2
     rw [if_pos rfl]
     exact fun h1 h2=>key j x e1 hjk hj b h2 h1
    ·rw [if_neg e2] at hk
     split at hk
     ·cases hk
     ·rw [if_neg (Ne.symm e2)]
      exact h.off j k x y hj hk hne b
 ·rw [lk] at ht'
  split at ht'
  ·cases ht'
  ·split at ht'
   ·cases ht'
   ·obtain ⟨x,h1,h2⟩:=h.tmp t' s ht'
    exact ⟨x,h1,Sy.keep hle hag s x h2⟩
mutual
theorem AR {w:World} {S T:BS}:∀(d:D) (cs:List Value),vg d=true→(match d with | .any=>False|_=>True)→EK d=true→Rp w S d cs→Ow w d T cs
 | .i _,cs,_,_,_,r=>r
 | .s _,cs,_,_,_,r=>r
 | .b _,cs,_,_,_,r=>r
 | .n _,cs,_,_,_,r=>r
 | .t ds,cs,h,_,h2,r=>uO ds cs h h2 r
 | .any,cs,_,h,_,_=>h.elim
 | .l _ _,_,h,_,_,_=>by cases h
 | .p _,_,h,_,_,_=>by cases h
 | .f _ _,_,h,_,_,_=>by cases h
theorem uO {w:World} {S T:BS}:∀(ds:List D) (cs:List Value),Bt ds=true→A4 ds=true→RpL w S ds cs→OwL w ds T cs
 | [],cs,_,_,r=>r
 | d :: ds,cs,h,h2,⟨c,e,h3,h4,h5⟩=>by
  have h':(vg d && Bt ds)=true:=h
  have h2':(EK d && A4 ds)=true:=h2
  rw [Bool.and_eq_true] at h' h2'
  exact ⟨fun _=>False,T,c,e,fun _ h=>h.elim,fun _ h=>h,fun _ h=>h.elim,h3,AR d c h'.1 (by cases d <;> first|trivial|exact absurd h2'.1 (by decide)) h2'.1 h4,uO ds e h'.2 h2'.2 h5⟩
end
theorem Ey {w:World} {c:Cx} {z e:Nat} {ds:List D} {v:Value} {S:BS} (hn:∀d∈ds,vg d=true∧EK d=true) (h:(Tk.row z e ds).ok c w v S):Ow w (.l z ds) S [v]:=by
 obtain ⟨a,k,h1,h2,h3,h4,h5⟩:=cV h
 refine ⟨a,k,h1,h2,h3,h4,?_⟩
 rcases h with ⟨hd,_⟩|⟨cells,own,hS,hel⟩
 ·exact .inl hd
 by_cases hd:ds = []
 ·exact .inl hd
 rcases own.2 with ⟨hv,hn0⟩|⟨g,cap,cur,hv,_,hg,q5,q6,q7,q8⟩
 ·exact .inl (List.eq_nil_of_length_eq_zero hn0)
 rw [hv] at h1
 have h1':=Value.slice.inj (List.cons.inj h1).1
 have hgo:v.ownBlock=some g:=by rw [hv];rfl
 obtain ⟨l1,l2⟩:=AC own hgo
 refine .inr ⟨g,0,fun _=>False,h1'.1.symm,hS g hgo,l1,fun q=>l2 q,fun _ h=>h.elim,?_⟩
 have:∀(es:List D) (o:Nat),(∀d∈es,vg d=true∧EK d=true)→(∀j (hj:j<es.length),∃cs,cs.length=z∧Rp w c.F es[j] cs∧bE w g (o+j * z) cs)→OwR w es (fun _=>False) z g o:=by
  intro es
  induction es with
  | nil=>intro o _ _;trivial
  | cons d es ih=>
   intro o hn hel
   obtain ⟨cs,p1,p2,p3⟩:=hel 0 (by simp)
   rw [Nat.zero_mul,Nat.add_zero] at p3
   refine ⟨fun _=>False,fun _=>False,fun _ h=>h,fun _ h=>h,fun _ h=>h.elim,⟨cs,p1,AR d cs (hn d (by simp)).1 (by have:=(hn d (by simp)).2;cases d <;> first|trivial|exact absurd this (by decide)) (hn d (by simp)).2 p2,p3⟩,ih (o+z) (fun d hd=>hn d (by simp [hd])) (fun j hj=>?_)⟩
   obtain ⟨cs,r1,r2,r3⟩:=hel (j+1) (by simpa using hj)
   refine ⟨cs,r1,by simpa using r2,?_⟩
   rw [show o+z+j * z=o+(j+1) * z by rw [Nat.succ_mul];omega]
   exact r3
 refine this ds 0 hn (fun j hj=>?_)
 obtain ⟨cs,p1,p2,p3⟩:=hel j hj
 refine ⟨cs,p1,p2,fun t u ht=>?_⟩
 have h9:=p3 t u ht
 rw [hv] at own
 rw [Nat.zero_add,World.ownsRow.cellAt own (j * z+t)]
 ·exact h9
 ·rcases Nat.lt_or_ge (j * z+t) cells.length with h|h
  ·rw [← own.1];exact h
  ·rw [List.getElem?_eq_none h] at h9;cases h9
section
variable {P:Program} {ops:Array Oper} {W0:cf} {N:Nat} {Fin:Us→Env→Prop} {os:List Oper} {us:Us} {pk fk:List Nat} {σ:Env} {g:Option (Nat × Bool)} {gk:List Nat} {d ty ty' f:Nat} {pos:String} {after:Array Edge} {at':Array TypeId} {x y:Operand} {i z n q e:Nat} {xs ds:List D}
theorem pA {C:Code} {Q:Exit→Act→World→Prop} (i:Nat) (hn:∀d∈ds,vg d=true∧EK d=true) (h:az P W0 N C ((i,.tk (.own (.l z ds) none none)) :: σ) Q) (hi:au σ i=some (.tk (.row z e ds)):=by rfl):az P W0 N C σ Q:=by
 intro a w ⟨c,hc⟩
 obtain ⟨hA,hT,hlt⟩:=hc.tok i _ hi
 exact h a w ⟨c,hc.upd2 hi Chg.rfl' (fun _=>⟨Ey hn hT,fun p hp=>(by cases hp),fun p hp=>(by cases hp)⟩)⟩
theorem Chg.set {S:BS} {w:World} {b o:Nat} {us':List Value} (hb:S b):Chg S w (w.setCells b o us'):=Chg.grown (by rw [jt];exact pX us' w b o) (fun g hg=>by cases hg;exact hb)
theorem FM {w:World} {S V:BS} {v:Value} {r:D} {us':List Value} (hO:Ow w (.l z xs) S [v]) (hn:n<xs.length) (hr:Ow w r V us') (hl:us'.length=z) (h1:us'.all (·.oneCell')=true) (hV:∀c,V c→¬S c∧c<w.heap.size):∃(b o k:Nat),v=.slice (some ⟨b,o,none⟩) xs.length k∧S b∧(∀{P:Program} {ty:Nat},sizeOf? P ty=some z→(Instr.storeAt ty (.pointer (some ⟨b,o+n * z,none⟩)) (.agg us'.toArray)).run P w=.ok () (w.setCells b (o+n * z) us'))∧Ow (w.setCells b (o+n * z) us') (.l z (xs.set n r)) (fun c=>S c∨V c) [v]:=by
 obtain ⟨a,k,e1,e2,e3,e4,e5⟩:=hO
 rcases e5 with e5|⟨b,o,U,rfl,f2,f3,f4,f5,f6⟩
 ·rw [e5] at hn;exact absurd hn (Nat.not_lt_zero _)
 have hch:Chg S w (w.setCells b (o+n * z) us'):=Chg.set f2
 have hch1:Chg (fun c=>c=b) w (w.setCells b (o+n * z) us'):=Chg.set rfl
 obtain ⟨Tn,cs,k1,k2,k3,k4,_⟩:=ED xs n U z b o f6 hn
 have hin:∀j,j<us'.length→(w.cell? ⟨b,o+n * z+j,none⟩).isSome=true:=fun j hj=>by
  rw [k4 j _ (List.getElem?_eq_getElem (by omega))];rfl
 refine ⟨b,o,k,(List.cons.inj e1).1,f2,fun {P} {ty} hz=>?_,some ⟨b,o,none⟩,k,by rw [List.length_set];exact e1,by rw [List.length_set];exact e2,e3,e4,.inr ⟨b,o,fun c=>U c∨V c,rfl,.inl f2,Nat.lt_of_lt_of_le f3 hch.size,fun q=>by rw [World.frozen?_setCells];exact f4 q,fun c hc=>?_,?_⟩⟩
 ·have:=run_storeAt_mid (P:=P) w b (o+n * z) ty us'.toArray (fun j hj=>⟨hin j (by simpa using hj),f4 _⟩) (by simpa [hl] using cZ hz) (all_oneCell_toArray (by simpa using h1))
  simpa using this
 ·rcases hc with hc|hc
  ·exact ⟨.inl (f5 c hc).1,(f5 c hc).2⟩
  ·exact ⟨.inr hc,fun e=>(hV c hc).1 (e ▸ f2)⟩
 ·refine Hg hch.size xs n U z b o r us' f6 hn (fun c hc hcl=>hch1.block c hcl (f5 c hc).2) (fun j hj=>World.cell?_setCells_out b us' (o+n * z) w ⟨b,j,none⟩ (fun _ _=>by rw [hl];exact hj)) (Ow.keep hch.size r V V us' (fun _ h=>h) (fun c hc hcl=>hch1.block c hcl (fun e=>(hV c hc).1 (e ▸ f2))) hr) hl (fun j u hj=>?_) (fun c hc hu=>(hV c hc).1 (f5 c hu).1)
  obtain ⟨hj1,hj2⟩:=List.getElem?_eq_some_iff.1 hj
  rw [World.cell?_setCells_in b us' (o+n * z) w hin j hj1,hj2]
theorem qJ {es:List D} (h:Der P ops W0 N Fin os (us++[((gk++(i :: (kx x++kx y)))++pk,([i])++fk)]) [] [] ((i,.tk (.own (.l z (xs.set n (.t es))) none none)) :: σ)) (hx:ev σ x=some (.eo i q):=by rfl) (hi:au σ i=some (.tk (.own (.l z xs) none none)):=by rfl) (hq:q=n * z:=by rfl) (hy:ev σ y=some (.d (.t es)):=by rfl) (hp:(Bt es && A4 es)=true:=by rfl) (hz:sizeOf? P ty'=some z:=by rfl) (hl:szs es=z:=by rfl) (hg:gst ops σ g=some (true,gk):=by rfl) (hn:n<xs.length:=by first|assumption|(rw [List.length_set];assumption)):Der P ops W0 N Fin (⟨none,.store ty' x y,ty,pos,after,g⟩ :: os) us pk fk σ:=
 lI (i :: (kx x++kx y)) [(i,.tk (.own (.l z (xs.set n (.t es))) none none))] (fun σ' c a w hk hc=>by
  subst hq
  have hi':=(hk i (by simp)).trans hi
  obtain ⟨hA,⟨hO,_,_⟩,hlt⟩:=hc.tok i _ hi'
  obtain ⟨_,b',o',m',k',e1,e2⟩:=av hc (af hx (fun κ hκ=>hk κ (by simp [hκ])))
  obtain ⟨us',e3,e4⟩:=av hc (af hy (fun κ hκ=>hk κ (by simp [hκ])))
  rw [Bool.and_eq_true] at hp
  have hr:Ow w (.t es) (fun _=>False) us':=uO es us' hp.1 hp.2 e4
  obtain ⟨b,o,k,f1,f2,f3,f4⟩:=FM hO hn hr ((RpL.len _ _ e4).trans hl) (List.all_eq_true.2 (fun u hu=>RpL.one _ _ e4 u hu)) (fun c h=>h.elim)
  rw [f1] at e1
  have e6:=Option.some.inj (Value.slice.inj e1).1
  have e7:b=b':=by injection e6
  have e8:o=o':=by injection e6
  subst e7;subst e8
  have hrun:(execOp a.eval ⟨none,.store ty' x y,ty,pos,after,g⟩).run P w=.ok .skip (w.setCells b (o+n * z) us'):=qT (X:=Instr.storeAt ty' (a.eval x) (a.eval y)) (by rw [e2,e3];exact f3 hz)
  unfold Oper.wp
  rw [hrun]
  refine ⟨rfl,c,hc.upd2 hi' (Chg.set f2) (fun hag=>⟨f4.mono (fun c h=>h.elim id False.elim),fun p hp=>(by cases hp),fun p hp=>(by cases hp)⟩)⟩) h hg
theorem qH {ss:List Sy} {es:List D} (r:D) (h:Der P ops W0 N Fin os (us++[((gk++(i :: (iw ss++(kx x++kx y))))++pk,(((i,In.tk (.own (.l z (xs.set n r)) none none)) :: (iw ss).map fun κ=>(κ,In.no)).map Prod.fst)++fk)]) [] [] (((i,.tk (.own (.l z (xs.set n r)) none none)) :: (iw ss).map fun κ=>(κ,.no))++σ)) (hx:ev σ x=some (.eo i q):=by rfl) (hi:au σ i=some (.tk (.own (.l z xs) none none)):=by rfl) (hq:q=n * z:=by rfl) (hy:ev σ y=some (.ag ss):=by rfl) (ho:nt σ ss=some es:=by rfl) (hr:GM r=es:=by rfl) (hd:Cj ss=true:=by rfl) (hni:((iw ss).all fun κ=>!(Nat.beq κ i))=true:=by rfl) (h1:ss.all (sZ σ)=true:=by rfl) (hz:sizeOf? P ty'=some z:=by rfl) (hl:ss.length=z:=by rfl) (hg:gst ops σ g=some (true,gk):=by rfl) (hn:n<xs.length:=by first|assumption|(rw [List.length_set];assumption)):Der P ops W0 N Fin (⟨none,.store ty' x y,ty,pos,after,g⟩ :: os) us pk fk σ:=
 lI (i :: (iw ss++(kx x++kx y))) ((i,.tk (.own (.l z (xs.set n r)) none none)) :: (iw ss).map fun κ=>(κ,.no)) (fun σ' c a w hk hc=>by
  subst hq
  have hks:∀κ∈iw ss,au σ' κ=au σ κ:=fun κ hκ=>hk κ (by simp [hκ])
  have ho':=(pW ss hks).trans ho
  have hi':=(hk i (by simp)).trans hi
  obtain ⟨hA,⟨hO,_,_⟩,hlt⟩:=hc.tok i _ hi'
  obtain ⟨_,b',o',m',k',e1,e2⟩:=av hc (af hx (fun κ hκ=>hk κ (by simp [hκ])))
  obtain ⟨us',e3,e4⟩:=av hc (af hy (fun κ hκ=>hk κ (by simp [hκ])))
  obtain ⟨p1,p2,p3⟩:=Ag hc ss es us' ho' e4
  have hkey:∀(m κ:Nat),ss[m]? = some (.k κ)→κ∈iw ss∧∃t,au σ' κ=some (.tk t):=fun m κ hm=>by
   have:∀(ss:List Sy) (es:List D) (m:Nat),nt σ' ss=some es→ss[m]? = some (.k κ)→κ∈iw ss∧∃t,au σ' κ=some (.tk t):=by
    intro ss
    induction ss with
    | nil=>intro es m _ hm;simp at hm
    | cons s ss ih=>
     intro es m ho hm
     have tl:∃es',nt σ' ss=some es':=by
      cases s with
      | k j=>unfold nt at ho;split at ho;exact ⟨_,by assumption⟩;cases ho
      | d r=>unfold nt at ho;split at ho;exact ⟨_,by assumption⟩;cases ho
      | _=>cases ho
     obtain ⟨es',hes'⟩:=tl
     cases m with
     | zero=>
      simp at hm
      subst hm
      refine ⟨by simp [iw,kSy],?_⟩
      unfold nt at ho
      split at ho
      ·exact ⟨_,by assumption⟩
      ·cases ho
     | succ m=>
      obtain ⟨q1,q2⟩:=ih es' m hes' (by simpa using hm)
      exact ⟨by simp [iw,q1],q2⟩
   exact this ss es m ho' hm
  have htk:∀(m b:Nat),tkT c ss[m]? b→∃κ,ss[m]? = some (.k κ)∧c.T κ b:=fun m b hb=>by
   cases hm:ss[m]? with
   | none=>rw [hm] at hb;exact hb.elim
   | some s=>
    rw [hm] at hb
    cases s with
    | k κ=>exact ⟨κ,rfl,hb⟩
    | _=>exact hb.elim
  have hcells:=AU es us' (fun m=>tkT c ss[m]?) p1 p3 (fun m m' hmm b hb hb'=>by
   obtain ⟨κ,q1,q2⟩:=htk m b hb
   obtain ⟨κ',q3,q4⟩:=htk m' b hb'
   have hne:κ≠κ':=by
    rcases Nat.lt_or_ge m m' with hlt|hge
    ·exact mL ss m m' κ κ' hd hlt q1 q3
    ·exact fun e=>mL ss m' m κ' κ hd (by omega) q3 q1 e.symm
   obtain ⟨t,ht⟩:=(hkey m κ q1).2
   obtain ⟨t',ht'⟩:=(hkey m' κ' q3).2
   exact hc.off κ κ' t t' ht ht' hne b q2 q4)
  have hV:∀b,(∃m:Nat,tkT c ss[m]? b)→∃κ,κ∈iw ss∧c.T κ b:=fun b ⟨m,hb⟩=>by
   obtain ⟨κ,q1,q2⟩:=htk m b hb
   exact ⟨κ,(hkey m κ q1).1,q2⟩
  have hkt:∀κ∈iw ss,κ≠i∧∃t,au σ' κ=some (.tk t):=fun κ hκ=>by
   refine ⟨fun e=>?_,?_⟩
   ·have:=List.all_eq_true.1 hni κ hκ
    rw [e] at this;simp at this
   ·have:∀(ss:List Sy),κ∈iw ss→∃m:Nat,ss[m]? = some (Sy.k κ):=by
     intro ss
     induction ss with
     | nil=>intro h;simp [iw] at h
     | cons s ss ih=>
      intro h
      rw [iw,List.mem_append] at h
      rcases h with h|h
      ·cases s with
       | k j=>simp [kSy] at h;subst h;exact ⟨0,rfl⟩
       | _=>simp [kSy] at h
      ·obtain ⟨m,hm⟩:=ih h;exact ⟨m+1,by simpa using hm⟩
    obtain ⟨m,hm⟩:=this ss hκ
    exact (hkey m κ hm).2
  have hr':Ow w r (fun b=>∃m:Nat,tkT c ss[m]? b) us':=DJ r _ us' (by rw [hr];exact hcells)
  obtain ⟨b,o,k,f1,f2,f3,f4⟩:=FM hO hn hr' ((dU _ _ e4).trans hl) (List.all_eq_true.2 (qE hc ss us' e4 ((iR hks).trans h1))) (fun b hb=>by
   obtain ⟨κ,q1,q2⟩:=hV b hb
   obtain ⟨q3,t,q4⟩:=hkt κ q1
   exact ⟨hc.off κ i t _ q4 hi' q3 b q2,((hc.tok κ t q4).2.2 b q2).2.1⟩)
  rw [f1] at e1
  have e6:=Option.some.inj (Value.slice.inj e1).1
  have e7:b=b':=by injection e6
  have e8:o=o':=by injection e6
  subst e7;subst e8
  have hrun:(execOp a.eval ⟨none,.store ty' x y,ty,pos,after,g⟩).run P w=.ok .skip (w.setCells b (o+n * z) us'):=qT (X:=Instr.storeAt ty' (a.eval x) (a.eval y)) (by rw [e2,e3];exact f3 hz)
  unfold Oper.wp
  rw [hrun]
  refine ⟨rfl,_,hc.eatM (iw ss) hi' hkt (Chg.set f2) (fun hag=>⟨f4.mono (fun c h=>h.imp id (hV c)),fun p hp=>(by cases hp),fun p hp=>(by cases hp)⟩)⟩) h hg
theorem vC {j o:Nat} {cs:List Sy} (h:Der P ops W0 N Fin os (us++[((gk++(i :: ([j]++(kx x++kx y))))++pk,([i])++fk)]) [] [] ((i,.tk (.bx (cs.set o (.k j)))) :: σ)) (hx:ev σ x=some (.bx i o):=by rfl) (hi:au σ i=some (.tk (.bx cs)):=by rfl) (hy:ev σ y=some (.k j):=by rfl) (h1:sZ σ (.k j)=true:=by rfl) (ho:Nat.blt o cs.length=true:=by rfl) (hz:sizeOf? P ty'=some 1:=by rfl) (hg:gst ops σ g=some (true,gk):=by rfl):Der P ops W0 N Fin (⟨none,.store ty' x y,ty,pos,after,g⟩ :: os) us pk fk σ:=
 lI (i :: ([j]++(kx x++kx y))) [(i,.tk (.bx (cs.set o (.k j))))] (fun σ' c a w hk hc=>by
  obtain ⟨hAi,b,e1,e2⟩:=av hc (af hx (fun κ hκ=>hk κ (by simp [hκ])))
  have hi':=(hk i (by simp)).trans hi
  obtain ⟨_,⟨b',vs,e3,e4,e5,e6⟩,hlt⟩:=hc.tok i _ hi'
  rw [e1] at e3;cases e3
  have hv:=av hc (af hy (fun κ hκ=>hk κ (by simp [hκ])))
  have hone:(a.eval y).oneCell'=true:=ru hc hv ((pS (fun κ hκ=>hk κ (by simp [kSy] at hκ;simp [hκ]))).trans h1)
  have hol:o<vs.length:=by rw [dU _ _ e5];exact Nat.blt_eq.mp ho
  obtain ⟨q4,q5⟩:=e6 o _ (List.getElem?_eq_getElem hol)
  unfold Oper.wp
  rw [gH hz hone q4 q5 e2 rfl]
  have hch:Chg (c.T i) w (w.setCell ⟨b,o,none⟩ (a.eval y)):=Chg.grown (bO b o _) (fun g hg=>by cases hg;exact e4)
  refine ⟨rfl,c,hc.upd hi' hch (by simp) (fun hag=>⟨b,vs.set o (a.eval y),e1,e4,?_,e6.set o _⟩)⟩
  exact kS _ _ _ _ _ (Sy.keeps (Cx.Le.refl c) hag _ _ e5) (Sy.keep (Cx.Le.refl c) hag _ _ hv)) h hg
theorem Ck (us' vs:List Value) (o:Nat) (h:o+us'.length≤vs.length):ka vs o us'=vs.take o++(us'++vs.drop (o+us'.length)):=by
 apply List.ext_getElem?
 intro j
 by_cases h1:j<o
 ·rw [iW us' vs o j (.inl h1),List.getElem?_append_left (by rw [List.length_take];omega),List.getElem?_take,if_pos h1]
 rw [List.getElem?_append_right (by rw [List.length_take];omega),List.length_take,Nat.min_eq_left (by omega)]
 by_cases h2:j - o<us'.length
 ·rw [List.getElem?_append_left h2]
  have:=kk us' vs o (j - o) _ (by omega) (List.getElem?_eq_getElem h2)
  rw [show o+(j - o)=j by omega] at this
  rw [this,List.getElem?_eq_getElem h2]
 ·rw [iW us' vs o j (.inr (by omega)),List.getElem?_append_right (by omega),List.getElem?_drop]
  congr 1;omega
theorem qp {o:Nat} {cs ss:List Sy} (h:Der P ops W0 N Fin os (us++[((gk++(i :: (iw ss++(kx x++kx y))))++pk,([i])++fk)]) [] [] ((i,.tk (.bx (cs.take o++(ss++cs.drop (o+ss.length))))) :: σ)) (hx:ev σ x=some (.bx i o):=by rfl) (hi:au σ i=some (.tk (.bx cs)):=by rfl) (hy:ev σ y=some (.ag ss):=by rfl) (hz:sizeOf? P ty'=some ss.length:=by rfl) (hl:Nat.ble (o+ss.length) cs.length=true:=by rfl) (h1:ss.all (sZ σ)=true:=by rfl) (hg:gst ops σ g=some (true,gk):=by rfl):Der P ops W0 N Fin (⟨none,.store ty' x y,ty,pos,after,g⟩ :: os) us pk fk σ:=
 lI (i :: (iw ss++(kx x++kx y))) [(i,.tk (.bx (cs.take o++(ss++cs.drop (o+ss.length)))))] (fun σ' c a w hk hc=>by
  obtain ⟨hAi,b,e1,e2⟩:=av hc (af hx (fun κ hκ=>hk κ (by simp [hκ])))
  have hi':=(hk i (by simp)).trans hi
  obtain ⟨_,⟨b',vs,e3,e4,e5,e6⟩,hlt⟩:=hc.tok i _ hi'
  rw [e1] at e3;cases e3
  obtain ⟨us',e7,e8⟩:=av hc (af hy (fun κ hκ=>hk κ (by simp [hκ])))
  have hone:=iR (σ:=σ) (σ':=σ') (ss:=ss) (fun κ hκ=>hk κ (by simp [hκ]))
  rw [h1] at hone
  have hlu:=dU _ _ e8
  have hlen:o+us'.length≤vs.length:=by rw [hlu,dU _ _ e5];exact Nat.le_of_ble_eq_true hl
  obtain ⟨w',r1,r2,r3,r4⟩:=mr (P:=P) e6 o us' hlen ty' (by rw [hlu];exact cZ hz) (List.all_eq_true.2 (fun u hu=>qE hc _ _ e8 hone u hu))
  have hrun:(execOp a.eval ⟨none,.store ty' x y,ty,pos,after,g⟩).run P w=.ok .skip w':=qT (X:=Instr.storeAt ty' (a.eval x) (a.eval y)) (by rw [e2,e7];exact r1)
  unfold Oper.wp
  rw [hrun]
  rw [Ck us' vs o hlen,hlu] at r2
  exact ⟨rfl,c,hc.upd hi' (Chg.grown r3 (fun g hg=>by cases hg;exact e4)) r4 (fun hag=>⟨b,_,e1,e4,nQ _ _ _ _ (nG o _ _ (Sy.keeps (Cx.Le.refl c) hag _ _ e5)) (nQ _ _ _ _ (Sy.keeps (Cx.Le.refl c) hag _ _ e8) (nC _ _ _ (Sy.keeps (Cx.Le.refl c) hag _ _ e5))),r2⟩)⟩) h hg
end
def rG {α:Type} (f:α→D) (r:D) (i:Nat) (xs:List α):List D:=(xs.take i).map f++List.replicate (xs.length - i) r
theorem gN {α:Type} (f:α→D) (r:D) (xs:List α):List.replicate xs.length r=rG f r 0 xs:=by simp [rG]
theorem i7 {α:Type} {f:α→D} {r:D} {xs:List α} {ds:List D} {i:Nat} (h:i=xs.length) (hd:ds=rG f r i xs):ds=xs.map f:=by subst h;rw [hd];simp [rG]
theorem iZ {α:Type} {f:α→D} {r:D} {xs:List α} {ds:List D} {i:Nat} (h:i≤xs.length) (hd:ds=rG f r i xs):ds.length=xs.length:=by subst hd;simp [rG];omega
theorem ld {α:Type} {f:α→D} {r:D} {xs:List α} {ds:List D} {i:Nat} (h:i<xs.length) (hd:ds=rG f r i xs):ds[i]? = some r:=by
 subst hd
 unfold rG
 rw [List.getElem?_append_right (by simp;omega),List.getElem?_replicate,if_pos (by rw [List.length_map,List.length_take];omega)]
theorem gS {α:Type} {f:α→D} {r:D} {xs:List α} {ds:List D} {i:Nat} (h:i<xs.length) (hd:ds=rG f r i xs):ds.set i (f xs[i])=rG f r (i+1) xs:=by
 subst hd
 unfold rG
 have hl:((xs.take i).map f).length=i:=by simp;omega
 rw [List.set_append_right _ _ (by omega),hl,Nat.sub_self,show xs.length - i=(xs.length - (i+1))+1 by omega,List.replicate_succ,List.set_cons_zero,List.take_succ_eq_append_getElem h,List.map_append,List.append_assoc]
 rfl
theorem kgt {p q:Prop} (hq:q) (h:Beh q→p:=by intro h0;(repeat (first|(refine ck ?_;first|refine bd ?_|refine cC ?_|refine bo ?_|refine bl ?_|refine aY ?_|refine br ?_|refine bw ?_|refine aK ?_|refine bp ?_)|(refine gv ?_;first|refine x6 ?_|refine cd ?_|refine gg ?_|refine ct ?_|refine cz ?_)|(refine gj ?_;first|refine yl ?_|refine uY (h:=?_)|refine cu ?_|refine cq ?_|refine bT ?_|refine ci ?_|refine cw ?_)|(refine gu ?_;first|refine x8 ?_|refine cK ?_|refine fy ?_|refine cH ?_|refine bY ?_|refine cF ?_|refine cE ?_)|(refine fV ?_;first|refine gq ?_|refine fQ ?_|refine ch ?_|refine cb ?_|refine fZ ?_|refine bf ?_|refine bm ?_)|(refine cm ?_;first|refine be ?_|refine cI ?_)|(refine fY ?_;first|refine cG ?_|refine cA ?_|refine gm ?_)|(refine cj ?_;first|refine jG ?_|refine mi ?_|refine cr ?_|refine bj ?_|refine bc ?_|refine bk ?_|refine aX ?_|refine bu ?_|refine ig ?_)|(refine gr ?_;first|refine cB ?_|refine fS ?_|refine bq ?_)|(refine aW ?_;first|refine aC _ ?_|refine bt ?_|refine aG ?_|refine aE ?_|refine aJ ?_|refine vC ?_|refine qJ ?_|refine qp ?_)|(refine gh ?_;first|refine co ?_|refine b7 ?_|refine cy ?_)|(refine gOp ?_;first|refine gx ?_|refine gd ?_|refine bh ?_|refine fX ?_|refine fW ?_|refine cJ ?_|refine aZ ?_|refine cg ?_|refine gw ?_|refine b8 ?_|refine cL ?_|refine bg ?_|refine aH ?_|refine cD ?_|refine sNo ?_)|refine gC ?_|refine fa ?_|refine gG ?_|refine bA ?_|refine cM ?_|refine bP ?_|refine gL ?_|refine gF ?_|refine gA ?_|refine fm ?_|refine cQ ?_|refine bD ?_|refine aB ?_|refine bB ?_|refine cO ?_|refine bN ?_|refine aBlkX ?_|refine cP ?_));exact h0.out):p:=h ⟨hq⟩
end Go.Proofs.YtclpbhoekmecjaaGreatDoor
namespace Go.Proofs.YtclpbhoekmecjaaGreatDoor
open Go.RowKit
set_option linter.unusedVariables false
set_option linter.unusedSimpArgs false
theorem ze {w:World} {S:BS} {z b:Nat}:∀(es:List D) (o:Nat),(∀d∈es,vg d=true∧EK d=true)→RpR w S z b o es→OwR w es (fun _=>False) z b o
 | [],o,_,_=>trivial
 | d :: es,o,hn,⟨⟨cs,h1,h2,h3⟩,h4⟩=>⟨fun _=>False,fun _=>False,fun _ h=>h,fun _ h=>h,fun _ h=>h.elim,⟨cs,h1,AR d cs (hn d (by simp)).1 (by have:=(hn d (by simp)).2;cases d <;> first|trivial|exact absurd this (by decide)) (hn d (by simp)).2 h2,h3⟩,ze es (o+z) (fun d hd=>hn d (by simp [hd])) h4⟩
theorem Gt {w:World} {T:BS} {x:Nd} {cs:List Value} (hT:∀b,T b→b<w.heap.size∧∀o,w.frozen? ⟨b,o,none⟩=false) (h:Rp w T x.D cs):Ow w x.D T cs:=by
 obtain ⟨c1,e1,rfl,h1,c2,e2,rfl,h2,c3,e3,rfl,h3,h4⟩:=h
 refine ⟨fun _=>False,T,c1,_,fun _ h=>h.elim,fun _ h=>h,fun _ h=>h.elim,rfl,h1,fun _=>False,T,c2,_,fun _ h=>h.elim,fun _ h=>h,fun _ h=>h.elim,rfl,h2,T,fun _=>False,c3,e3,fun _ h=>h,fun _ h=>h.elim,fun _ _ h=>h,rfl,?_,h4⟩
 obtain ⟨a,k,q1,q2,q3,q4,q5⟩:=h3
 refine ⟨a,k,q1,q2,q3,q4,q5.imp id ?_⟩
 rintro ⟨b,o,r1,r2,r3⟩
 exact ⟨b,o,fun _=>False,r1,r2,(hT b r2).1,(hT b r2).2,fun _ h=>h.elim,ze _ o (fun d hd=>by obtain ⟨n,_,rfl⟩:=List.mem_map.1 hd;exact ⟨rfl,rfl⟩) r3⟩
theorem BV {w:World} {c:Cx} {z e:Nat} {ns:List Nd} {v:Value} {S:BS} (h:(Tk.deep z e (ns.map Nd.D) []).ok c w v S):Ow w (.l z (ns.map Nd.D)) S [v]:=by
 rcases h with ⟨hd,_,a0,hv⟩|⟨cells,T,own,h3,h4,h5,h6,_⟩
 ·rw [hd]
  exact ⟨a0,0,by rw [hv];rfl,Nat.le_refl _,by decide,fun _=>rfl,.inl rfl⟩
 rcases own.2 with ⟨hv,hn0⟩|⟨g,cap,cur,hv,_,hg,q5,q6,q7,q8⟩
 ·rw [List.eq_nil_of_length_eq_zero hn0]
  exact ⟨none,0,by rw [hv];rfl,Nat.le_refl _,by decide,fun _=>rfl,.inl rfl⟩
 have hgo:v.ownBlock=some g:=by rw [hv];rfl
 obtain ⟨l1,l2⟩:=AC own hgo
 obtain ⟨s1,s2⟩:=h3 g hgo
 refine ⟨some ⟨g,0,none⟩,cap,by rw [hv],q5,q6,fun h=>(by cases h),.inr ⟨g,0,fun b=>∃j,T j b,rfl,s1,l1,fun q=>l2 q,fun b ⟨j,hb⟩=>⟨(h4 j b hb).1,fun e=>s2 j (e ▸ hb)⟩,?_⟩⟩
 have:∀(es:List Nd) (o:Nat) (T:Nat→BS),(∀j b,T j b→b<w.heap.size∧∀o,w.frozen? ⟨b,o,none⟩=false)→(∀i j,i≠j→∀b,T i b→¬T j b)→(∀j (hj:j<es.length),∃cs,cs.length=z∧Rp w (T j) (es[j]).D cs∧bE w g (o+j * z) cs)→OwR w (es.map Nd.D) (fun b=>∃j,T j b) z g o:=by
  intro es
  induction es with
  | nil=>intro o T _ _ _;trivial
  | cons d es ih=>
   intro o T hT hoff hel
   obtain ⟨cs,p1,p2,p3⟩:=hel 0 (by simp)
   rw [Nat.zero_mul,Nat.add_zero] at p3
   refine ⟨T 0,fun b=>∃j,T (j+1) b,fun b h=>⟨0,h⟩,fun b ⟨j,h⟩=>⟨j+1,h⟩,fun b h ⟨j,h'⟩=>hoff 0 (j+1) (by omega) b h h',⟨cs,p1,Gt (hT 0) p2,p3⟩,ih (o+z) (fun j=>T (j+1)) (fun j=>hT (j+1)) (fun i j hij=>hoff (i+1) (j+1) (by omega)) (fun j hj=>?_)⟩
   obtain ⟨cs,r1,r2,r3⟩:=hel (j+1) (by simpa using hj)
   refine ⟨cs,r1,by simpa using r2,?_⟩
   rw [show o+z+j * z=o+(j+1) * z by rw [Nat.succ_mul];omega]
   exact r3
 refine this ns 0 T (fun j b hb=>(h4 j b hb).2) h5 (fun j hj=>?_)
 obtain ⟨cs,p1,p2,p3⟩:=h6 j (by rw [List.length_map];exact hj)
 refine ⟨cs,p1,by rw [List.getElem_map] at p2;exact p2,fun t u ht=>?_⟩
 have h9:=p3 t u ht
 rw [hv] at own
 rw [Nat.zero_add,World.ownsRow.cellAt own (j * z+t)]
 ·exact h9
 ·rcases Nat.lt_or_ge (j * z+t) cells.length with h|h
  ·rw [← own.1];exact h
  ·rw [List.getElem?_eq_none h] at h9;cases h9
theorem G3 {P:Program} {W0:cf} {N:Nat} {σ:Env} {z e:Nat} {ns:List Nd} {C:Code} {Q:Exit→Act→World→Prop} (i:Nat) (h:az P W0 N C ((i,.tk (.own (.l z (ns.map Nd.D)) none none)) :: σ) Q) (hi:au σ i=some (.tk (.deep z e (ns.map Nd.D) [])):=by rfl):az P W0 N C σ Q:=by
 intro a w ⟨c,hc⟩
 obtain ⟨hA,hT,hlt⟩:=hc.tok i _ hi
 exact h a w ⟨c,hc.upd2 hi Chg.rfl' (fun _=>⟨BV hT,fun p hp=>(by cases hp),fun p hp=>(by cases hp)⟩)⟩
theorem FnO.toR {P:Program} {f z:Nat} {xs ds:List D} (h:FnO P f xs [0] [.tk (.own (.l z ds) none none)]):FnD P f xs (.d (.l z ds)):=⟨h.enter,fun F w vs hv hF=>(h.calls F w vs hv hF).mono (by
 rintro e w' ⟨us,T,rfl,hX,hl,hT,hdis,hel⟩
 obtain ⟨u,h1,h2⟩:=hel 0 _ rfl
 have e:qL [0] us = [u]:=by
  cases us with
  | nil=>simp at hl
  | cons x t=>
   have:t = []:=List.eq_nil_of_length_eq_zero (by simpa using hl)
   subst this
   simp at h1
   subst h1
   rfl
 exact ⟨u,by rw [e];rfl,hX,Pt.frz hT h2⟩)⟩
section
variable {P:Program} {ops:Array Oper} {W0:cf} {N:Nat} {Fin:Us→Env→Prop} {os:List Oper} {us:Us} {pk fk:List Nat} {σ:Env} {g:Option (Nat × Bool)} {gk:List Nat} {d ty ty' ty2:Nat} {pos:String} {after:Array Edge} {x y:Operand} {s t:Sy}
theorem FL {m:Int} (h:Der P ops W0 N Fin os (us++[((d :: (gk++(kx x++kx y)))++pk,([d])++fk)]) [] [] ((d,.sy (.d (.b false))) :: σ)) (hx:ev σ x=some s:=by rfl) (hy:ev σ y=some t:=by rfl) (hm:s.int? = some m:=by rfl) (hn:t.int? = some m:=by rfl) (hg:gst ops σ g=some (true,gk):=by rfl) (hN:Nat.blt d N=true:=by rfl) (hs:aM σ d=true:=by rfl):Der P ops W0 N Fin (⟨some d,.binOp .neq ty' x y ty2,ty,pos,after,g⟩ :: os) us pk fk σ:=fQ (m:=m) (n:=m) (r:=false) h hx hy hm hn (by simp [GJ]) hg hN hs
theorem Gn {m:Bool} (h:Der P ops W0 N Fin os (us++[((d :: (gk++(kx x++kx y)))++pk,([d])++fk)]) [] [] ((d,.sy (.d (.b false))) :: σ)) (hx:ev σ x=some s:=by rfl) (hy:ev σ y=some t:=by rfl) (hm:s.bool? = some m:=by rfl) (hn:t.bool? = some m:=by rfl) (ht:P.underlying ty'=some .bool:=by rfl) (hg:gst ops σ g=some (true,gk):=by rfl) (hN:Nat.blt d N=true:=by rfl) (hs:aM σ d=true:=by rfl):Der P ops W0 N Fin (⟨some d,.binOp .neq ty' x y ty2,ty,pos,after,g⟩ :: os) us pk fk σ:=cb (m:=m) (n:=m) (r:=false) h hx hy hm hn (by simp [GF]) ht hg hN hs
theorem GB {m n:Int} (h:Der P ops W0 N Fin os (us++[((d :: (gk++(kx x++kx y)))++pk,([d])++fk)]) [] [] ((d,.sy (.d (.b false))) :: σ)) (hx:ev σ x=some s:=by rfl) (hy:ev σ y=some t:=by rfl) (hm:s.int? = some m:=by rfl) (hn:t.int? = some n:=by rfl) (hr:¬m<n:=by omega) (hg:gst ops σ g=some (true,gk):=by rfl) (hN:Nat.blt d N=true:=by rfl) (hs:aM σ d=true:=by rfl):Der P ops W0 N Fin (⟨some d,.binOp .lss ty' x y ty2,ty,pos,after,g⟩ :: os) us pk fk σ:=fQ (m:=m) (n:=n) (r:=false) h hx hy hm hn (congrArg some (decide_eq_false hr)) hg hN hs
end
theorem GG {P:Program} {W0:cf} {N:Nat} {σ:Env} {Q:Exit→Act→World→Prop} {x:Code} (τ:Env) (h:az P W0 N x τ Q) (hs:DC [] σ τ τ:=by (repeat' (first|exact trivial|refine ⟨⟨?_,rfl⟩,?_⟩)) <;> rfl) (hn:nf ((tks τ).map (rn []))=true:=by rfl):az P W0 N x σ Q:=fun a w hh=>h a w (hh.sub [] τ hs hn)
theorem tM {p q:Prop} (hq:q) (h:Beh q→p:=by intro h0;(repeat (first|(refine ck ?_;first|refine bd ?_|refine cC ?_|refine bo ?_|refine bl ?_|refine aY ?_|refine br ?_|refine bw ?_|refine aK ?_|refine bp ?_)|(refine gv ?_;first|refine x6 ?_|refine cd ?_|refine gg ?_|refine ct ?_|refine cz ?_)|(refine gj ?_;first|refine yl ?_|refine uY (h:=?_)|refine cu ?_|refine cq ?_|refine bT ?_|refine ci ?_|refine cw ?_)|(refine gu ?_;first|refine x8 ?_|refine cK ?_|refine fy ?_|refine cH ?_|refine bY ?_|refine cF ?_|refine cE ?_)|(refine fV ?_;first|refine FL ?_|refine Gn ?_|refine GB ?_|refine gq ?_|refine fQ ?_|refine ch ?_|refine cb ?_|refine fZ ?_|refine bf ?_|refine bm ?_)|(refine cm ?_;first|refine be ?_|refine cI ?_)|(refine fY ?_;first|refine cG ?_|refine cA ?_|refine gm ?_)|(refine cj ?_;first|refine jG ?_|refine mi ?_|refine cr ?_|refine bj ?_|refine bc ?_|refine bk ?_|refine aX ?_|refine bu ?_|refine ig ?_)|(refine gr ?_;first|refine cB ?_|refine fS ?_|refine bq ?_)|(refine aW ?_;first|refine aC _ ?_|refine bt ?_|refine aG ?_|refine aE ?_|refine aJ ?_|refine vC ?_|refine qJ ?_|refine qp ?_)|(refine gh ?_;first|refine co ?_|refine b7 ?_|refine cy ?_)|(refine gOp ?_;first|refine gx ?_|refine gd ?_|refine bh ?_|refine fX ?_|refine fW ?_|refine cJ ?_|refine aZ ?_|refine cg ?_|refine gw ?_|refine b8 ?_|refine cL ?_|refine bg ?_|refine aH ?_|refine cD ?_|refine sNo ?_)|refine gC ?_|refine fa ?_|refine gG ?_|refine bA ?_|refine cM ?_|refine bP ?_|refine gL ?_|refine gF ?_|refine gA ?_|refine fm ?_|refine cQ ?_|refine bD ?_|refine aB ?_|refine bB ?_|refine cO ?_|refine bN ?_|refine aBlkX ?_|refine cP ?_));exact h0.out):p:=h ⟨hq⟩
theorem GD {p q:Prop} (hq:q) (h:Beh q→p:=by intro h0;(repeat (first|(refine ck ?_;first|refine bd ?_|refine cC ?_|refine bo ?_|refine bl ?_|refine aY ?_|refine br ?_|refine bw ?_|refine aK ?_|refine bp ?_)|(refine gv ?_;first|refine x6 ?_|refine cd ?_|refine gg ?_|refine ct ?_|refine cz ?_)|(refine gj ?_;first|refine yl ?_|refine uY (h:=?_)|refine cu ?_|refine cq ?_|refine bT ?_|refine ci ?_|refine cw ?_)|(refine gu ?_;first|refine x8 ?_|refine cK ?_|refine fy ?_|refine cH ?_|refine bY ?_|refine cF ?_|refine cE ?_)|(refine fV ?_;first|refine FL ?_|refine Gn ?_|refine GB ?_|refine gq ?_|refine fQ ?_|refine ch ?_|refine cb ?_|refine fZ ?_|refine bf ?_|refine bm ?_)|(refine cm ?_;first|refine be ?_|refine cI ?_)|(refine fY ?_;first|refine cG ?_|refine cA ?_|refine gm ?_)|(refine cj ?_;first|refine jG ?_|refine mi ?_|refine cr ?_|refine bj ?_|refine bc ?_|refine bk ?_|refine aX ?_|refine bu ?_|refine ig ?_)|(refine gr ?_;first|refine cB ?_|refine fS ?_|refine bq ?_)|(refine aW ?_;first|refine aC _ ?_|refine bt ?_|refine aG ?_|refine aE ?_|refine aJ ?_|refine vC ?_|refine qJ ?_|refine qp ?_)|(refine gh ?_;first|refine co ?_|refine b7 ?_|refine cy ?_)|(refine gOp ?_;first|refine gx ?_|refine gd ?_|refine bh ?_|refine fX ?_|refine fW ?_|refine cJ ?_|refine aZ ?_|refine cg ?_|refine gw ?_|refine b8 ?_|refine cL ?_|refine bg ?_|refine aH ?_|refine cD ?_|refine sNo ?_)));exact h0.out):p:=h ⟨hq⟩
end Go.Proofs.YtclpbhoekmecjaaGreatDoor
namespace Go.Proofs.YtclpbhoekmecjaaGreatDoor
open Go.RowKit
set_option linter.unusedVariables false
set_option linter.unusedSimpArgs false
section
variable {P:Program} {ops:Array Oper} {W0:cf} {N:Nat} {Fin:Us→Env→Prop} {os:List Oper} {us:Us} {pk fk:List Nat} {σ:Env} {g:Option (Nat × Bool)} {gk:List Nat} {d ty ty' f:Nat} {pos:String} {after:Array Edge} {at':Array TypeId} {ds:List D} {tag:Option Value} {b:Bool} {i:Nat} {pv:Value}
end
section
variable {P:Program} {W0:cf} {N:Nat} {σ:Env} {C:Code} {Q:Exit→Act→World→Prop} {i j t:Nat} {z e:Nat} {ds:List D} {u:Value} {cs:List Sy} {x:Exit}
end
theorem CK {w:World} {S:BS} {sh ds es rs:List D} {vs:List Value} (hn:uo sh ds=some (es,[])) (h:DVs w S (.t ds :: rs) vs):DVs w S (.t es :: rs) vs:=by
 obtain ⟨v,t,h1,⟨cs,h2,h3⟩,h4⟩:=h
 obtain ⟨us,xs,e1,e2,e3⟩:=qM sh ds es [] cs hn h3
 cases (show xs = [] from e3)
 rw [List.append_nil] at e1
 exact ⟨v,t,h1,⟨us,by rw [h2,e1],e2⟩,h4⟩
theorem FnD.nest {P:Program} {f:FuncId} {xs:List D} (sh ds:List D) {es rs:List D} (h:FnD P f xs (.tp (.t ds :: rs))) (hn:uo sh ds=some (es,[]):=by rfl):FnD P f xs (.tp (.t es :: rs)):=⟨h.enter,fun F w vs hv hF=>(h.calls F w vs hv hF).mono fun e w' ⟨v,h1,h2,us,h3,h4⟩=>⟨v,h1,h2,us,h3,CK hn h4⟩⟩
section
variable {P:Program} {ops:Array Oper} {W0:cf} {N:Nat} {Fin:Us→Env→Prop} {os:List Oper} {us:Us} {pk fk:List Nat} {σ:Env} {g:Option (Nat × Bool)} {gk:List Nat} {d ty ty' f:Nat} {pos:String} {after:Array Edge} {at':Array TypeId} {x y:Operand} {z e n:Nat} {xs ys:List D} {ti:TypeInfo}
end
end Go.Proofs.YtclpbhoekmecjaaGreatDoor
namespace Go.Proofs.YtclpbhoekmecjaaGreatDoor
open Go.RowKit
set_option linter.unusedVariables false
set_option linter.unusedSimpArgs false
def CM:Nat→Code→Code
 | 0,c=>c
 | n+1,.seq _ y=>CM n y
 | _,c=>c
section
variable {P:Program} {ops:Array Oper} {W0:cf} {N:Nat} {Fin:Us→Env→Prop} {os:List Oper} {us:Us} {pk fk:List Nat} {σ:Env} {g:Option (Nat × Bool)} {gk:List Nat} {d ty ty' f:Nat} {pos:String} {after:Array Edge} {at':Array TypeId}
end
section
variable {P:Program} {ops:Array Oper} {W0:cf} {N:Nat} {Fin:Us→Env→Prop} {os:List Oper} {us:Us} {pk fk:List Nat} {σ:Env} {g:Option (Nat × Bool)} {gk:List Nat} {d ty ty' f:Nat} {pos:String} {after:Array Edge}
end
end Go.Proofs.YtclpbhoekmecjaaGreatDoor
namespace Go.Proofs.YtclpbhoekmecjaaGreatDoor
open Go.RowKit
set_option linter.unusedVariables false
set_option maxRecDepth 100000
set_option maxHeartbeats 4000000
theorem Fs (i:Nat) {t t':Tk} {P:Program} {W0:cf} {N:Nat} {σ:Env} {Q:Exit→Act→World→Prop} {x:Code} (he:t=t') (h:az P W0 N x ((i,.tk t') :: σ) Q) (hi:au σ i=some (.tk t):=by rfl):az P W0 N x σ Q:=fun a w hh=>h a w (hh.congr (fun κ=>by
 subst he
 rw [ah]
 split
 ·rename_i e;subst e;exact hi.symm
 ·rfl))
section
variable {P:Program} {ops:Array Oper} {W0:cf} {N:Nat} {Fin:Us→Env→Prop} {os:List Oper} {us:Us} {pk fk:List Nat} {σ:Env} {g:Option (Nat × Bool)} {gk:List Nat} {d ty ty':Nat} {pos:String} {after:Array Edge}
theorem Gz {α:Type} {f:α→D} {l:List α} {x:Operand} {i z n e:Nat} {ds:List D} (h:Der P ops W0 N Fin os (us++[((d :: (gk++(i :: kx x)))++pk,([d])++fk)]) [] [] ((d,.sy (.d (.t ds))) :: σ)) (hx:ev σ x=some (.el i z n 0):=by rfl) (hi:au σ i=some (.tk (.row z e (l.map f))):=by rfl) (hlt:n<l.length:=by first|assumption|omega) (hq:f l[n]=.t ds:=by rfl) (hA:isAgg? P ty'=some true:=by rfl) (hz:sizeOf? P ty'=some z:=by rfl) (hg:gst ops σ g=some (true,gk):=by rfl) (hN:Nat.blt d N=true:=by rfl) (hs:aM σ d=true:=by rfl):Der P ops W0 N Fin (⟨some d,.load ty' x,ty,pos,after,g⟩ :: os) us pk fk σ:=
 b6 (.d (.t ds)) (i :: kx x) (fun σ' c a w hk hc=>by
  obtain ⟨hA',b,m,cp,h1,h2⟩:=av hc (af hx (fun κ hκ=>hk κ (by simp [hκ])))
  obtain ⟨_,hT,_⟩:=hc.tok i _ ((hk i (by simp)).trans hi)
  rcases hT with ⟨hd,_⟩|⟨cells,own,hS,hel⟩
  ·rw [List.map_eq_nil_iff] at hd;subst hd;exact absurd hlt (Nat.not_lt_zero _)
  obtain ⟨cs,q1,q2,q3⟩:=hel n (by rw [List.length_map];exact hlt)
  rw [List.getElem_map,hq] at q2
  rw [h1] at own
  refine ⟨.agg cs.toArray,d7 (X:=Instr.loadAt ty' (a.eval x)) ?_,cs,rfl,q2⟩
  rw [h2]
  refine fc hA (by rw [hz,q1]) (fun j u hj=>?_)
  have hjz:j<z:=by
   rcases Nat.lt_or_ge j z with h|h
   ·exact h
   ·rw [List.getElem?_eq_none (by omega)] at hj;cases hj
  have hin:n * z+j<(l.map f).length * z:=by
   rw [List.length_map]
   have:=Nat.mul_le_mul_right z (show n+1≤l.length from hlt)
   rw [Nat.add_mul] at this;omega
  rcases own.2 with ⟨hv0,_⟩|⟨gb,cap,cur,hv0,rest⟩
  ·cases hv0
  ·cases hv0
   rw [Nat.add_zero,World.ownsRow.cellAt (h:=own) (n * z+j) hin]
   exact q3 j u hj) h hg hN hs
end
attribute [local irreducible] az Der At
def nB (E:Int) (ns:List ByteArray) (r:Int × ByteArray):Int:=if r.2=⟨#[]⟩ then r.1 else E+jC ns r.2
theorem vF (b:Big) (E:Int) (ns:List ByteArray) (g:Nat) (cs:List D) (l:Int) (r:Int × ByteArray) (hct:(cs.all fun r=>!isT r)=true) (h0:0≤b.edges∧b.edges≤1000) (h1:b.edges≤l→l - b.edges<b.outer.length) (ho:b.outer.length≤1000) (hE:0≤E∧E≤1000) (hn:ns.length≤1000) (hg:FnD Tryz.prog g ([tw (io b l)]++cs) (.d (tw r))):FnD Tryz.prog 323 [.i l,.p (.f g cs),.p b.D,.p (.i E),.p (.t [.i b.roots,.any,.any,.i E,DS ns,.any])] (.d (.i (nB E ns r))):=by
 have f1:=zJ b l h0 h1 ho
 have f2:=nH ns r.2
 have hr:=mM ns r.2
 refine ai Tryz.func323 (fun hw W0=>?_)
 refine kgo ?_
 refine cIf (fun h=>?_) (fun h=>?_)
 ·rw [show nB E ns r=r.1 from if_pos ((lA _).1 h)]
  refine kgo ?_
  exact ax
 ·have h:¬r.2=⟨#[]⟩:=fun e=>by rw [(lA _).2 e] at h;cases h
  rw [show nB E ns r=E+jC ns r.2 from if_neg h]
  refine kgo ?_
  exact ax
def yt (b:Big) (E:Int) (ns:List ByteArray) (turn:Int→Int):Big:=⟨b.roots,b.nodes.map fun x=>⟨x.control,x.parent,x.links.map turn⟩,b.sites,E,ns,b.inner.map fun w=>⟨w.name,turn w.link⟩⟩
def kR (turn:Int→Int) (l:List Nd) (i j:Nat):List Nd:=l.mapIdx fun k x=>⟨x.control,x.parent,if k<i then x.links.map turn else if k=i then (x.links.take j).map turn++x.links.drop j else x.links⟩
theorem wT (turn:Int→Int) (l:List Nd) (i j:Nat):(kR turn l i j).length=l.length:=by simp [kR]
theorem zF (turn:Int→Int) (l:List Nd):kR turn l 0 0=l:=by
 refine List.ext_getElem (by simp [kR]) fun k h1 h2=>?_
 simp only [kR,List.getElem_mapIdx,List.take_zero,List.map_nil,List.nil_append,List.drop_zero,Nat.not_lt_zero,if_false,ite_self]
theorem C4 (turn:Int→Int) (l:List Nd) (i:Nat) (h:i<l.length):kR turn l i l[i].links.length=kR turn l (i+1) 0:=by
 refine List.ext_getElem (by simp [kR]) fun k h1 h2=>?_
 simp only [kR,List.getElem_mapIdx]
 rcases Nat.lt_trichotomy k i with hk|rfl|hk
 ·rw [if_pos hk,if_pos (by omega)]
 ·rw [if_neg (by omega),if_pos rfl,if_pos (by omega),List.take_length,List.drop_length,List.append_nil]
 ·rw [if_neg (by omega),if_neg (by omega),if_neg (by omega)]
  split
  ·simp
  ·rfl
theorem Ci (turn:Int→Int) (l:List Nd):kR turn l l.length 0=l.map fun x=>⟨x.control,x.parent,x.links.map turn⟩:=by
 refine List.ext_getElem (by simp [kR]) fun k h1 h2=>?_
 simp only [kR,List.getElem_mapIdx,List.getElem_map]
 rw [if_pos (by simpa using h2)]
theorem qv (turn:Int→Int) (l:List Nd) (i j:Nat) (h:i<l.length):(kR turn l i j).getD i ⟨0,0,[]⟩=⟨l[i].control,l[i].parent,(l[i].links.take j).map turn++l[i].links.drop j⟩:=by
 simp [kR,h]
theorem AF (turn:Int→Int) (l:List Nd) (i j:Nat) (h:i<l.length) (hj:j<l[i].links.length):((kR turn l i j).getD i ⟨0,0,[]⟩).links.getD j 0=l[i].links[j]:=by
 rw [qv turn l i j h]
 show ((l[i].links.take j).map turn++l[i].links.drop j).getD j 0=_
 rw [List.getD_eq_getElem?_getD,List.getElem?_append_right (by simp;omega)]
 simp [Nat.min_eq_left (Nat.le_of_lt hj),hj]
theorem yT (turn:Int→Int) (l:List Nd) (i j:Nat) (h:i<l.length) (hj:j≤l[i].links.length):((kR turn l i j).getD i ⟨0,0,[]⟩).links.length=l[i].links.length:=by
 rw [qv turn l i j h]
 simp
 omega
theorem Cd (turn:Int→Int) (l:List Nd) (i j:Nat) (h:i<l.length) (hj:j<l[i].links.length):t8 (kR turn l i j) i j (turn l[i].links[j])=kR turn l i (j+1):=by
 unfold t8
 rw [qv turn l i j h]
 refine List.ext_getElem (by simp [kR]) fun k h1 h2=>?_
 rw [List.getElem_set]
 split
 ·rename_i e
  subst e
  simp only [kR,List.getElem_mapIdx,Nat.lt_irrefl,if_false,if_true]
  congr 1
  rw [List.set_append_right _ _ (by simp;omega)]
  have:j - ((l[i].links.take j).map turn).length=0:=by simp;omega
  rw [this,List.drop_eq_getElem_cons hj,List.set_cons_zero,List.take_succ_eq_append_getElem hj,List.map_append,List.append_assoc]
  rfl
 ·rename_i e
  simp only [kR,List.getElem_mapIdx]
  have hk:¬k=i:=fun e'=>e e'.symm
  simp only [if_neg hk]
def m5 (turn:Int→Int) (l:List Wr) (i:Nat):List Wr:=l.mapIdx fun k x=>⟨x.name,if k<i then turn x.link else x.link⟩
abbrev H5 (b:Big):List Pt:=[.d (.i b.roots),.tk (.deep 3 131 (b.nodes.map Nd.D) []),.tk (.row 1 3 (b.sites.map .i)),.d (.i b.edges),.d (DS b.outer),.tk (.row 2 133 (b.inner.map Wr.D))]
theorem wx (turn:Int→Int) (l:List Wr) (i:Nat):(m5 turn l i).length=l.length:=by simp [m5]
theorem Bo (turn:Int→Int) (l:List Wr):m5 turn l 0=l:=by
 refine List.ext_getElem (by simp [m5]) fun k h1 h2=>?_
 simp [m5]
theorem Cq (turn:Int→Int) (l:List Wr):m5 turn l l.length=l.map fun w=>⟨w.name,turn w.link⟩:=by
 refine List.ext_getElem (by simp [m5]) fun k h1 h2=>?_
 simp only [m5,List.getElem_mapIdx,List.getElem_map]
 rw [if_pos (by simpa using h2)]
theorem AP (turn:Int→Int) (l:List Wr) (i:Nat) (h:i<l.length):(m5 turn l i)[i]'(by rw [wx];exact h)=l[i]:=by simp [m5]
theorem CO (turn:Int→Int) (l:List Wr) (i:Nat) (h:i<l.length):(m5 turn l i).set i ⟨l[i].name,turn l[i].link⟩=m5 turn l (i+1):=by
 refine List.ext_getElem (by simp [m5]) fun k h1 h2=>?_
 rw [List.getElem_set]
 simp only [m5,List.getElem_mapIdx]
 split
 ·rename_i e;subst e;rw [if_pos (by omega)]
 ·rename_i e
  congr 1
  by_cases hk:k<i
  ·rw [if_pos hk,if_pos (by omega)]
  ·rw [if_neg hk,if_neg (by omega)]
theorem mA (b:Big) (E:Int) (names:List ByteArray) (g:Nat) (cs:List D) (F:Int × ByteArray→Int × ByteArray) (hct:(cs.all fun r=>!isT r)=true) (hd:uz b) (hi:b.inner.length≤1000) (h0:0≤b.edges∧b.edges≤1000) (hE:0≤E∧E≤1000) (hn:names.length≤1000) (hnl:∀x∈b.nodes,∀l∈x.links,(0≤l∧l<b.edges+b.outer.length)) (hil:∀x∈b.inner,(0≤x.link∧x.link<b.edges+b.outer.length))
 (hg:∀l,(0≤l∧l<b.edges+b.outer.length)→FnD Tryz.prog g ([tw (io b l)]++cs) (.d (tw (F (io b l))))):FnO Tryz.prog 292 [b.D,.i E,DS names,.f g cs] [6] (H5 (yt b E (ca names) fun l=>nB E (ca names) (F (io b l)))):=by
 have f1:=jJ b hd hi
 have f2:=kN names hn
 obtain ⟨_,_,hd3,_,hd5,_,hd7⟩:=hd
 have hsn:(ca names).length≤1000:=by have h:=jU names [];unfold ca;simp at h;omega
 generalize hturn:(fun l=>nB E (ca names) (F (io b l)))=turn
 have f3:∀l,(0≤l∧l<b.edges+b.outer.length)→FnD Tryz.prog 323 [.i l,.p (.f g cs),.p b.D,.p (.i E),.p (.t [.i b.roots,.any,.any,.i E,DS (ca names),.any])] (.d (.i (turn l))):=fun l hl=>by
  rw [← hturn]
  exact vF b E (ca names) g cs l _ hct h0 (by omega) hd5 hE hsn (hg l hl)
 refine dy Tryz.func292 (fun hw W0=>?_)
 refine kgo ?_
 refine rH 7 (.f g cs) ?_
 refine rH 4 b.D ?_
 refine rH 5 (.i E) ?_
 refine H0 9 ?_
 refine kgo ?_
 refine Fs 31018 (t':=.deep 3 131 ((kR turn b.nodes 0 0).map Nd.D) []) (by rw [zF]) ?_
 refine ar [8,9,10,26,27] (fun i:Nat=>i≤b.nodes.length) (fun i=>b.nodes.length - i) (fun i=>[(28,.sy (.d (.i i))),(31018,.tk (.deep 3 131 ((kR turn b.nodes i 0).map Nd.D) []))]) 0 (Nat.zero_le _) (fun i hi=>?_)
 refine kgo ?_
 refine aV (fun h=>?_) (fun h=>?_)
 ·have hlt:i<b.nodes.length:=by simpa using h
  have hll:=wT turn b.nodes i 0
  have hln:((kR turn b.nodes i 0)[i]'(by omega)).links.length=b.nodes[i].links.length:=by
   have:=yT turn b.nodes i 0 hlt (Nat.zero_le _)
   rwa [List.getD_eq_getElem?_getD,List.getElem?_eq_getElem (by omega),Option.getD_some] at this
  have hl7:=hd7 i hlt
  refine HW 31018 i (l:=kR turn b.nodes i 0) (by omega) (fun ad k hmx hsl=>?_)
  rw [hln]
  have hm2:b.nodes[i].links.length≤maxLen:=by rwa [hln] at hmx
  refine kgo ?_
  refine ar [8,9,10,12,26,27,28,33,34] (fun j:Nat=>j≤b.nodes[i].links.length) (fun j=>b.nodes[i].links.length - j) (fun j=>[(35,.sy (.d (.i j))),(31018,.tk (.deep 3 131 ((kR turn b.nodes i j).map Nd.D) [(i * 3+2,.slice ad b.nodes[i].links.length k)]))]) 0 (Nat.zero_le _) (fun j hj=>?_)
  refine kgo ?_
  refine aV (fun h2=>?_) (fun h2=>?_)
  ·have hlj:j<b.nodes[i].links.length:=by omega
   have hmj:j<((kR turn b.nodes i j).getD i ⟨0,0,[]⟩).links.length:=by rw [yT turn b.nodes i j hlt (by omega)];exact hlj
   have hli:=wT turn b.nodes i j
   have f4:=f3 (((kR turn b.nodes i j).getD i ⟨0,0,[]⟩).links.getD j 0) (by rw [AF turn b.nodes i j hlt hlj];exact hnl _ (List.getElem_mem hlt) _ (List.getElem_mem hlj))
   have hset:((t8 (kR turn b.nodes i j) i j (turn (((kR turn b.nodes i j).getD i ⟨0,0,[]⟩).links.getD j 0))).map Nd.D)=(kR turn b.nodes i (j+1)).map Nd.D:=by rw [AF turn b.nodes i j hlt hlj,Cd turn b.nodes i j hlt hlj]
   rcases hsl with hsl|⟨b0,o0,rfl⟩
   ·rw [hsl] at hln;simp at hln;omega
   refine kgo ?_
   refine FN 31018 ?_
   refine kgo ?_
   refine Ec 31018 ?_
   refine kgo ?_
   exact ab (j+1) hlj (by omega) (hs:=⟨⟨rfl,rfl⟩,⟨zp rfl hset,rfl⟩,by repeat (first|exact trivial|refine ⟨⟨rfl,rfl⟩,?_⟩)⟩)
  obtain rfl:j=b.nodes[i].links.length:=by omega
  rw [C4 turn b.nodes i hlt]
  refine FP 31018 ?_
  refine kgo ?_
  exact ab (i+1) hlt (by omega) (hs:=⟨⟨rfl,rfl⟩,⟨rfl,rfl⟩,by repeat (first|exact trivial|refine ⟨⟨rfl,rfl⟩,?_⟩)⟩)
 obtain rfl:i=b.nodes.length:=by have:=h;simp at this;omega
 rw [Ci]
 refine kgo ?_
 refine Fs 35018 (t':=.row 2 133 ((m5 turn b.inner 0).map Wr.D)) (by rw [Bo]) ?_
 refine ar [8,9,10,50,51] (fun i:Nat=>i≤b.inner.length) (fun i=>b.inner.length - i) (fun i=>[(52,.sy (.d (.i i))),(35018,.tk (.row 2 133 ((m5 turn b.inner i).map Wr.D)))]) 0 (Nat.zero_le _) (fun i hi=>?_)
 refine kgo ?_
 refine aV (fun h=>?_) (fun h=>?_)
 ·have hlt:i<b.inner.length:=by simpa using h
  have hli:=wx turn b.inner i
  have hlt':i<(m5 turn b.inner i).length:=by omega
  have f4:=f3 ((m5 turn b.inner i)[i].link) (by rw [AP turn b.inner i hlt];exact hil _ (List.getElem_mem hlt))
  have hs:((m5 turn b.inner i).set i ⟨((m5 turn b.inner i)[i]).name,turn ((m5 turn b.inner i)[i]).link⟩).map Wr.D=(m5 turn b.inner (i+1)).map Wr.D:=by rw [AP turn b.inner i hlt,CO turn b.inner i hlt]
  refine kgo ?_
  refine Gz (f:=Wr.D) (l:=m5 turn b.inner i) ?_
  refine kgo ?_
  refine aC (f:=Wr.D) (l:=m5 turn b.inner i) ⟨((m5 turn b.inner i)[i]).name,turn ((m5 turn b.inner i)[i]).link⟩ ?_
  refine kgo ?_
  exact ab (i+1) hlt (by omega)
 obtain rfl:i=b.inner.length:=by have:=h;simp at this;omega
 rw [Cq]
 refine kgo ?_
 exact gP (hp:=.cons (.d rfl) (.cons (.k rfl rfl) (.cons (.k rfl rfl) (.cons (.d rfl) (.cons (.d rfl) (.cons (.k rfl rfl) .nil))))))
end Go.Proofs.YtclpbhoekmecjaaGreatDoor
namespace Go.Proofs.YtclpbhoekmecjaaGreatDoor
open Go.RowKit
set_option linter.unusedVariables false
set_option maxRecDepth 100000
set_option maxHeartbeats 4000000
theorem FnD.arg {P:Program} {f:Nat} {ds ds':List D} {r:Ro} (h:FnD P f ds r) (hd:∀w F vs,DVs w F ds' vs→DVs w F ds vs):FnD P f ds' r:=⟨h.enter,fun F w vs hv hF=>h.calls F w vs (hd _ _ _ hv) hF⟩
theorem Dy {w:World} {F:BS} {z:Nat} {v:Value} (h:DV w F (.n z) v):DV w F (.l z []) v:=by
 obtain ⟨a,h⟩:=h
 exact ⟨a,0,h,Nat.le_refl _,by decide,fun _=>rfl,.inl rfl⟩
def Fq (σ:Env):List Operand→Option (List D)
 | []=>some []
 | x :: xs=>match (match x with | .const (.slice none 0 0)=>some (.n 1)|x=>(ev σ x).bind Sy.arg),Fq σ xs with
  | some r,some rs=>some (r :: rs)
  | _,_=>none
theorem t6 {W0:cf} {N:Nat} {a:Act} {w:World} {c:Cx} {σ σ':Env} (h:aL W0 N σ' a w c):∀(xs:List Operand) (ds:List D),Fq σ xs=some ds→(∀κ∈kxs xs,au σ' κ=au σ κ)→DVs w c.F ds (xs.map a.eval):=by
 intro xs
 induction xs with
 | nil=>intro ds he _;cases he;exact rfl
 | cons x xs ih=>
  intro ds he hk
  unfold Fq at he
  split at he
  ·rename_i r rs h1 h2
   cases he
   refine ⟨_,_,rfl,?_,ih rs h2 (fun κ hκ=>hk κ (by simp [kxs,hκ]))⟩
   split at h1
   ·cases h1;exact ⟨none,rfl⟩
   ·rw [Option.bind_eq_some_iff] at h1
    obtain ⟨s,h3,h4⟩:=h1
    exact Bg h4 (av h (af h3 (fun κ hκ=>hk κ (by simp [kxs,hκ]))))
  ·cases he
section
variable {P:Program} {ops:Array Oper} {W0:cf} {N:Nat} {Fin:Us→Env→Prop} {os:List Oper} {us:Us} {pk fk:List Nat} {σ:Env} {g:Option (Nat × Bool)} {gk:List Nat} {d ty f:Nat} {pos:String} {after:Array Edge} {at':Array TypeId} {xs:List Operand} {ds:List D}
theorem F3 {r:D} (h:Der P ops W0 N Fin os (us++[((d :: (gk++kxs xs))++pk,([d])++fk)]) [] [] ((d,.sy (.d r)) :: σ)) (hx:Fq σ xs=some ds:=by rfl) (hf:FnD P f ds (.d r):=by assumption) (hg:gst ops σ g=some (true,gk):=by rfl) (hN:Nat.blt d N=true:=by rfl) (hs:aM σ d=true:=by rfl):Der P ops W0 N Fin (⟨some d,.call { callee:=.value (.func f),args:=xs.toArray,argTypes:=at' },ty,pos,after,g⟩ :: os) us pk fk σ:=
 me (.d r) (kxs xs) [] (fun σ' c a w hk hc=>by
  unfold Oper.wp
  rw [b9 hf.enter rfl]
  refine (hf.calls c.F w _ (t6 hc xs ds hx hk) hc.lt).mono ?_
  rintro e w' ⟨v,rfl,hX,hv⟩
  exact ⟨v,_,rfl,hc.fresh hX,hv⟩) h hg hN hs rfl
end
attribute [local irreducible] az Der At
theorem ue (a:Big) (ns:List ByteArray) (s:ByteArray) (q:Nat) (hq:jC ns s=q) (hql:q<a.inner.length) (hi:a.inner.length≤1000) (h0:0≤a.edges∧a.edges≤1000) (h1:a.inner[q].link<a.edges+a.outer.length) (ho:a.outer.length≤1000):FnD Tryz.prog 259 [.s s,.p a.D,.p (DS ns)] (.d (tw (io a a.inner[q].link))):=by
 have f1:=nH ns s
 rw [hq] at f1
 have f2:=zJ a a.inner[q].link h0 (by omega) ho
 refine ai Tryz.func259 (fun hw W0=>?_)
 refine kgo ?_
 exact ax
def yF (a:Big) (L:ByteArray→Int × ByteArray) (e:Int × ByteArray):Int × ByteArray:=if e.2=⟨#[]⟩ then (e.1+a.edges,⟨#[]⟩) else L e.2
def zG (a:Big) (Pl:Int→Int) (p:Int):Int:=if 0≤p then p+a.nodes.length else Pl p
def DM (a:Big) (Pl:Int→Int) (x:Nd):Nd:=⟨x.control,zG a Pl x.parent,x.links⟩
theorem vV {α β:Type} (f:α→β) (u:List β) (l:List α) (i:Nat) (h:i<l.length):u++(l.take (i+1)).map f=(u++(l.take i).map f)++[f l[i]]:=by rw [List.take_succ_eq_append_getElem h,List.map_append,List.append_assoc];rfl
def sH (a b:Big) (roots:Int) (sites:List Int) (ns:List ByteArray) (L:ByteArray→Int × ByteArray) (Pl:Int→Int):Big:=
 let A:=yt a (a.edges+b.edges) ns fun l=>nB (a.edges+b.edges) ns (id (io a l))
 let R:=yt b (a.edges+b.edges) ns fun l=>nB (a.edges+b.edges) ns (yF a L (io b l))
 ⟨roots,A.nodes++R.nodes.map (DM a Pl),sites++b.sites.map (zG a Pl),a.edges+b.edges,ns,R.inner⟩
theorem wQ (a b:Big) (roots:Int) (sites:List Int) (names:List ByteArray) (gp gl:Nat) (cp cl:List D) (L:ByteArray→Int × ByteArray) (Pl:Int→Int) (hcp:(cp.all fun r=>!isT r)=true) (hcl:(cl.all fun r=>!isT r)=true) (da:uz a) (db:uz b) (ia:a.inner.length≤1000) (ib:b.inner.length≤1000) (ea:0≤a.edges∧a.edges≤500) (eb:0≤b.edges∧b.edges≤500) (hn:names.length≤1000) (hs:sites.length≤1000)
 (la:∀x∈a.nodes,∀l∈x.links,(0≤l∧l<a.edges+a.outer.length)) (wa:∀x∈a.inner,(0≤x.link∧x.link<a.edges+a.outer.length)) (lb:∀x∈b.nodes,∀l∈x.links,(0≤l∧l<b.edges+b.outer.length)) (wb:∀x∈b.inner,(0≤x.link∧x.link<b.edges+b.outer.length))
 (hpl:∀x∈b.nodes,x.parent≤1000∧(x.parent<0→FnD Tryz.prog gp ([.i x.parent]++cp) (.d (.i (Pl x.parent))))) (hps:∀p∈b.sites,p≤1000∧(p<0→FnD Tryz.prog gp ([.i p]++cp) (.d (.i (Pl p)))))
 (hL:∀l,(0≤l∧l<b.edges+b.outer.length)→FnD Tryz.prog 296 [tw (io b l),.p a.D,.p (.f gl cl)] (.d (tw (yF a L (io b l))))):FnD Tryz.prog 257 [a.D,b.D,.i roots,DI sites,DS names,.f gp cp,.f gl cl] (.d (sH a b roots sites (ca names) L Pl).D):=by
 have f1:=mA a (a.edges+b.edges) names 295 [] id rfl da ia ⟨by omega,by omega⟩ ⟨by omega,by omega⟩ hn la wa (fun l _=>Bb _)
 have f2:=(mA b (a.edges+b.edges) names 296 [.p a.D,.p (.f gl cl)] (yF a L) rfl db ib ⟨by omega,by omega⟩ ⟨by omega,by omega⟩ hn lb wb hL).toD
 have f3:=nL sites hs
 obtain ⟨R,hR⟩:∃R,R=yt b (a.edges+b.edges) (ca names) fun l=>nB (a.edges+b.edges) (ca names) (yF a L (io b l)):=⟨_,rfl⟩
 rw [← hR] at f2
 have hRn:∀x∈R.nodes,x.parent≤1000∧(x.parent<0→FnD Tryz.prog gp ([.i x.parent]++cp) (.d (.i (Pl x.parent)))):=fun x hx=>by
  rw [hR] at hx
  obtain ⟨y,hy,rfl⟩:=List.mem_map.1 hx
  exact hpl y hy
 have hRl:R.nodes.length≤1000:=by rw [hR];simp [yt];exact db.nodes
 obtain ⟨A,hA⟩:∃A,A=yt a (a.edges+b.edges) (ca names) fun l=>nB (a.edges+b.edges) (ca names) (id (io a l)):=⟨_,rfl⟩
 rw [← hA] at f1
 have hAl:A.nodes.length≤1000:=by rw [hA];simp [yt];exact da.nodes
 refine ai Tryz.func257 (fun hw W0=>?_)
 refine kgo ?_
 refine rH 7 a.D ?_
 refine rH 13 (.f gl cl) ?_
 refine kgo ?_
 refine GS 31031 ?_
 refine Fs 31031 (t':=.row 3 131 ((A.nodes++(R.nodes.take 0).map (DM a Pl)).map Nd.D)) (by rw [List.take_zero,List.map_nil,List.append_nil]) ?_
 refine ar [5,7,8,14,18,49,50,10041] (fun i:Nat=>i≤R.nodes.length) (fun i=>R.nodes.length - i) (fun i=>[(51,.sy (.d (.i i))),(10018,.tk (.bx [.d (.i roots),.k 20001,.k 10041,.d (.i (a.edges+b.edges)),.d (DS A.outer),.d (.l 2 (R.inner.map Wr.D))])),(20001,.tk (.row 3 131 ((A.nodes++(R.nodes.take i).map (DM a Pl)).map Nd.D)))]) 0 (Nat.zero_le _) (fun i hi=>?_)
 refine kgo ?_
 refine aV (fun h=>?_) (fun h=>?_)
 ·have hlt:i<R.nodes.length:=by simpa using h
  have hx:=hRn _ (List.getElem_mem hlt)
  have f4:=zu a R.nodes[i].parent (Pl R.nodes[i].parent) gp cp hcp hx.1 da.nodes hx.2
  have hs2:(A.nodes++(R.nodes.take (i+1)).map (DM a Pl)).map Nd.D=(A.nodes++(R.nodes.take i).map (DM a Pl)).map Nd.D++[(DM a Pl R.nodes[i]).D]:=by rw [vV _ _ _ _ hlt,List.map_append];rfl
  refine kgo ?_
  exact ab (i+1) hlt (by omega) (hs:=⟨⟨rfl,rfl⟩,⟨rfl,rfl⟩,⟨jV rfl hs2.symm,rfl⟩,by repeat (first|exact trivial|refine ⟨⟨rfl,rfl⟩,?_⟩)⟩)
 obtain rfl:i=R.nodes.length:=by have:=h;simp at this;omega
 rw [List.take_length]
 refine kgo ?_
 refine Fs 10041 (t':=.row 1 3 ((sites++(b.sites.take 0).map (zG a Pl)).map D.i)) (by rw [List.take_zero,List.map_nil,List.append_nil]) ?_
 refine ar [5,7,14,18,69,70,20001] (fun i:Nat=>i≤b.sites.length) (fun i=>b.sites.length - i) (fun i=>[(71,.sy (.d (.i i))),(10018,.tk (.bx [.d (.i roots),.k 20001,.k 20002,.d (.i (a.edges+b.edges)),.d (DS A.outer),.d (.l 2 (R.inner.map Wr.D))])),(20002,.tk (.row 1 3 ((sites++(b.sites.take i).map (zG a Pl)).map D.i)))]) 0 (Nat.zero_le _) (fun i hi=>?_)
 refine kgo ?_
 refine aV (fun h=>?_) (fun h=>?_)
 ·have hlt:i<b.sites.length:=by simpa using h
  have hx:=hps _ (List.getElem_mem hlt)
  have hbl:=db.sites
  have f4:=zu a b.sites[i] (Pl b.sites[i]) gp cp hcp hx.1 da.nodes hx.2
  have hs2:(sites++(b.sites.take (i+1)).map (zG a Pl)).map D.i=(sites++(b.sites.take i).map (zG a Pl)).map D.i++[.i (zG a Pl b.sites[i])]:=by rw [vV _ _ _ _ hlt,List.map_append];rfl
  refine kgo ?_
  exact ab (i+1) hlt (by omega) (hs:=⟨⟨rfl,rfl⟩,⟨rfl,rfl⟩,⟨jV rfl hs2.symm,rfl⟩,by repeat (first|exact trivial|refine ⟨⟨rfl,rfl⟩,?_⟩)⟩)
 obtain rfl:i=b.sites.length:=by have:=h;simp at this;omega
 rw [List.take_length]
 refine bP (aB (aB (bN (bD ?_))))
 refine nK 10018 1 ?_
 refine nK 10018 2 ?_
 refine kgo ?_
 rw [show sH a b roots sites (ca names) L Pl=⟨roots,A.nodes++R.nodes.map (DM a Pl),sites++b.sites.map (zG a Pl),a.edges+b.edges,A.outer,R.inner⟩ from by rw [hA,hR];rfl]
 exact ax
theorem xe (a b:Big) (da:uz a) (db:uz b) (ia:a.inner.length≤1000) (ib:b.inner.length≤1000) (ea:0≤a.edges∧a.edges≤500) (eb:0≤b.edges∧b.edges≤500)
 (la:∀x∈a.nodes,∀l∈x.links,(0≤l∧l<a.edges+a.outer.length)) (wa:∀x∈a.inner,(0≤x.link∧x.link<a.edges+a.outer.length)) (lb:∀x∈b.nodes,∀l∈x.links,(0≤l∧l<b.edges+b.outer.length)) (wb:∀x∈b.inner,(0≤x.link∧x.link<b.edges+b.outer.length))
 (hpl:∀x∈b.nodes,x.parent≤1000∧(x.parent<0→0≤-1 - x.parent∧-1 - x.parent<a.sites.length)) (hps:∀p∈b.sites,p≤1000∧(p<0→0≤-1 - p∧-1 - p<a.sites.length))
 (hL:∀s∈b.outer,∃q:Nat,jC (a.inner.map Wr.name) s=q∧q<a.inner.length):FnD Tryz.prog 225 [a.D,b.D] (.d (sH a b a.roots [] (ca a.outer) (fun s=>io a (a.inner.getD (jC (a.inner.map Wr.name) s).toNat ⟨⟨#[]⟩,0⟩).link) (fun p=>atI a.sites (-1 - p))).D):=by
 have f1:=(fK a ia).toL
 have hX:∀l,(0≤l∧l<b.edges+b.outer.length)→¬(io b l).2=⟨#[]⟩→FnD Tryz.prog 259 ([.s (io b l).2]++[.p a.D,.p (DS (a.inner.map Wr.name))]) (.d (tw (io a (a.inner.getD (jC (a.inner.map Wr.name) (io b l).2).toNat ⟨⟨#[]⟩,0⟩).link))):=fun l hl hne=>by
  have hm:(io b l).2∈b.outer:=by
   unfold io at hne ⊢
   split at hne
   ·exact absurd rfl hne
   ·rename_i hge
    rw [if_neg hge]
    have hlt:(l - b.edges).toNat<b.outer.length:=by omega
    show b.outer.getD (l - b.edges).toNat ⟨#[]⟩∈b.outer
    rw [List.getD_eq_getElem?_getD,List.getElem?_eq_getElem hlt]
    exact List.getElem_mem hlt
  obtain ⟨q,hq,hql⟩:=hL _ hm
  have f:=ue a (a.inner.map Wr.name) (io b l).2 q hq hql ia ⟨ea.1,by omega⟩ (wa _ (List.getElem_mem hql)).2 da.outer
  rw [hq,Int.toNat_natCast,List.getD_eq_getElem?_getD,List.getElem?_eq_getElem hql]
  exact f
 have f2:=(wQ a b a.roots [] a.outer 258 259 [.p a.D] [.p a.D,.p (DS (a.inner.map Wr.name))] (fun s=>io a (a.inner.getD (jC (a.inner.map Wr.name) s).toNat ⟨⟨#[]⟩,0⟩).link) (fun p=>atI a.sites (-1 - p)) rfl rfl da db ia ib ea eb da.outer (Nat.zero_le _) la wa lb wb
  (fun x hx=>⟨(hpl x hx).1,fun h=>nS a x.parent ((hpl x hx).2 h) da.sites⟩) (fun p hp=>⟨(hps p hp).1,fun h=>nS a p ((hps p hp).2 h) da.sites⟩)
  (fun l hl=>tB a _ _ (io b l) _ rfl (by have h1:=hl.1;have h2:=eb.2;unfold io;split <;> (constructor <;> dsimp only <;> omega)) ⟨ea.1,by omega⟩ (hX l hl))).arg (ds':=[a.D,b.D,.i a.roots,.n 1,DS a.outer,.f 258 [.p a.D],.f 259 [.p a.D,.p (DS (a.inner.map Wr.name))]]) (fun w F vs h=>by
   obtain ⟨v1,t1,rfl,h1,v2,t2,rfl,h2,v3,t3,rfl,h3,v4,t4,rfl,h4,h5⟩:=h
   exact ⟨_,_,rfl,h1,_,_,rfl,h2,_,_,rfl,h3,_,_,rfl,Dy h4,h5⟩)
 refine ai Tryz.func225 (fun hw W0=>?_)
 refine kgo ?_
 refine rH 2 a.D ?_
 refine rH 5 (DS (a.inner.map Wr.name)) ?_
 refine kgo ?_
 refine F3 (hf:=f2) ?_
 refine kgo ?_
 exact ax
end Go.Proofs.YtclpbhoekmecjaaGreatDoor
namespace Go.Proofs.YtclpbhoekmecjaaGreatDoor
open Go.RowKit
set_option linter.unusedVariables false
set_option maxRecDepth 100000
set_option maxHeartbeats 4000000
attribute [local irreducible] az Der At
def Bs (a b:Big):Bool:=decide ((a.sites.length:Int)=b.roots) && eqS (a.inner.map Wr.name) b.outer
def A2 (a b:Big):Big:=sH a b a.roots [] (ca a.outer) (fun s=>io a (a.inner.getD (jC (a.inner.map Wr.name) s).toNat ⟨⟨#[]⟩,0⟩).link) (fun p=>atI a.sites (-1 - p))
def ml (sig:List Ctl) (a b:Big):Bool:=ay sig a && (ay sig b && (Bs a b && ay sig (A2 a b)))
theorem mF (sig:List Ctl) (a b:Big) (ia:a.inner.length≤1000) (ib:b.inner.length≤1000) (hc:ay sig a=true→ay sig b=true→Bs a b=true→(A2 a b).inner.length≤1000∧FnD Tryz.prog 225 [a.D,b.D] (.d (A2 a b).D)):FnO Tryz.prog 175 [.l 3 (sig.map Ctl.D),a.D,b.D] [6,0] (yK (yL (ml sig a b) (A2 a b))++[.d (.b (ml sig a b))]):=by
 have f1:=gZ sig a (by omega)
 have f2:=gZ sig b (by omega)
 have f3:FnD Tryz.prog 224 [a.D,b.D] (.d (.b (Bs a b))):=FX a b ia
 refine dy Tryz.func175 (fun hw W0=>?_)
 refine kgo ?_
 cases ga:ay sig a
 ·rw [show ml sig a b=false from by simp [ml,ga]]
  refine kgo ?_
  exact gP (hp:=.cons (.d rfl) (.cons .m (.cons .n (.cons (.d rfl) (.cons .n (.cons .n (.cons (.d rfl) .nil)))))))
 refine kgo ?_
 cases gb:ay sig b
 ·rw [show ml sig a b=false from by simp [ml,gb]]
  refine kgo ?_
  exact gP (hp:=.cons (.d rfl) (.cons .m (.cons .n (.cons (.d rfl) (.cons .n (.cons .n (.cons (.d rfl) .nil)))))))
 refine kgo ?_
 cases gf:Bs a b
 ·rw [show ml sig a b=false from by simp [ml,gf]]
  refine kgo ?_
  exact gP (hp:=.cons (.d rfl) (.cons .m (.cons .n (.cons (.d rfl) (.cons .n (.cons .n (.cons (.d rfl) .nil)))))))
 obtain ⟨h1,f4⟩:=hc ga gb gf
 have f5:=ow sig (A2 a b) h1
 rw [show ml sig a b=ay sig (A2 a b) from by simp [ml,ga,gb,gf]]
 refine kgo ?_
 exact gP (hp:=.cons (.d rfl) (.cons (.k rfl rfl) (.cons (.k rfl rfl) (.cons (.d rfl) (.cons (.k rfl rfl) (.cons (.k rfl rfl) (.cons (.d rfl) .nil)))))))
end Go.Proofs.YtclpbhoekmecjaaGreatDoor
namespace Go.Proofs.YtclpbhoekmecjaaGreatDoor
open Go.RowKit
set_option linter.unusedVariables false
set_option linter.unusedSimpArgs false
theorem DD {a c:List ByteArray} (h:eqS a c=true):a=c:=by
 unfold eqS at h
 simp only [Bool.and_eq_true,decide_eq_true_eq] at h
 refine List.ext_getElem h.1 (fun i h1 h2=>?_)
 have:=(aD _ _).1 h.2 i h1
 rw [jH a c i h1 h2,beq_iff_eq] at this
 exact ft this
structure rK (b:Big):Prop where
 dims:uz b
 roots:0≤b.roots∧b.roots≤4
 edges:0≤b.edges∧b.edges≤8
 nodes:b.nodes.length≤8
 sitesN:b.sites.length≤4
 outer:b.outer.length≤16
 inner:b.inner.length≤16
 links:∀x∈b.nodes,∀l∈x.links,0≤l∧l<b.edges+b.outer.length
 wires:∀x∈b.inner,0≤x.link∧x.link<b.edges+b.outer.length
 pars:∀x∈b.nodes,-b.roots≤x.parent∧x.parent≤8
 sites:∀p∈b.sites,-b.roots≤p∧p≤8
 names:b.outer.Pairwise NLt
 inames:(b.inner.map Wr.name).Pairwise NLt
 full:∀s∈b.outer,s≠⟨#[]⟩
theorem xW {l:List ByteArray} (h:dp l=true):∀s∈l,s≠⟨#[]⟩:=fun s hs e=>by
 obtain ⟨i,hi,rfl⟩:=List.mem_iff_getElem.1 hs
 have h2:=(aD _ _).1 (Bool.and_eq_true_iff.1 h).1 i hi
 rw [rq l i hi] at h2
 have h3:=(Bool.and_eq_true_iff.1 h2).1
 unfold dD at h3
 have h4:=bL (Bool.and_eq_true_iff.1 h3).1
 rw [e] at h4
 have:(ByteArray.mk #[]).size=0:=rfl
 omega
theorem dt {sig:List Ctl} {b:Big} (h:ay sig b=true):rK b:=by
 obtain ⟨h1,h2,h3,h4⟩:=cN h
 obtain ⟨_,_,_,_,_,ho,hi⟩:=de h1
 obtain ⟨r,n,s,e,o,i⟩:=aU h
 refine ⟨bG h,r,e,n,s,o,i,fun x hx l hl=>?_,fun x hx=>?_,fun x hx=>?_,fun p hp=>?_,rW ho,rW hi,xW ho⟩
 ·obtain ⟨k,hk,rfl⟩:=List.mem_iff_getElem.1 hx
  have:=bL ((eB h k hk).2.2.2.2 l hl)
  omega
 ·have:=bL (List.all_eq_true.1 h4 x hx)
  omega
 ·obtain ⟨k,hk,rfl⟩:=List.mem_iff_getElem.1 hx
  have:=iP h k hk
  omega
 ·have:=List.all_eq_true.1 h3 p hp
  unfold fe dB at this
  split at this
  ·simp only [decide_eq_true_eq] at this;omega
  ·simp only [Bool.and_eq_true,decide_eq_true_eq] at this;omega
theorem uP (xs ys:List Int) (l:Int) (h0:0≤l):atI (xs++ys) l=if l<(xs.length:Int) then atI xs l else atI ys (l - xs.length):=by
 unfold atI
 rw [List.getD_eq_getElem?_getD,List.getD_eq_getElem?_getD,List.getD_eq_getElem?_getD,List.getElem?_append]
 by_cases h:l<(xs.length:Int)
 ·rw [if_pos h,if_pos (by omega)]
 ·rw [if_neg h,if_neg (by omega),show l.toNat - xs.length=(l - xs.length).toNat by omega]
theorem mD {α:Type} (f:α→Int) (l:List α) (i:Nat) (h:i<l.length):atI (l.map f) (i:Int)=f l[i]:=by
 rw [bJ _ i (by simpa using h),List.getElem_map]
theorem oz (m:Int) (n:Nat) (l:Int) (h0:0≤l) (h1:l<n):atI (eP m n) l=m+l:=by
 obtain ⟨i,rfl⟩:=Int.eq_ofNat_of_zero_le h0
 unfold eP
 rw [mD _ _ i (by simp;omega),List.getElem_range]
theorem so (m:Int) (n:Nat) (l:Int) (h0:0≤l) (h1:l<n):atI (dg m n) l = -1 - m - l:=by
 obtain ⟨i,rfl⟩:=Int.eq_ofNat_of_zero_le h0
 unfold dg
 rw [mD _ _ i (by simp;omega),List.getElem_range]
theorem Dp {r p:Int} (h0:0≤r) (h : -r≤p):upF 0 (dg 0 r.toNat) p=p:=by
 unfold upF
 split
 ·rw [so _ _ _ (by omega) (by omega)];omega
 ·omega
theorem wn {r:Int} {l:List Int} (h0:0≤r) (h:∀p∈l,-r≤p):dx 0 (dg 0 r.toNat) l=l:=by
 unfold dx
 conv=>rhs;rw [← List.map_id l]
 exact List.map_congr_left fun p hp=>Dp h0 (h p hp)
theorem DH {b:Big} (o:rK b) (m E:Int) (ns:List ByteArray) (l:Int) (h:0≤l∧l<b.edges+b.outer.length) :
 atI (eP m b.edges.toNat++dz b.outer E ns) l=if l<b.edges then m+l else E+jC ns (b.outer.getD (l - b.edges).toNat ⟨#[]⟩):=by
 have he:=o.edges
 rw [uP _ _ _ h.1,eK]
 by_cases hl:l<b.edges
 ·rw [if_pos (by omega),if_pos hl,oz _ _ _ h.1 (by omega)]
 ·rw [if_neg (by omega),if_neg hl]
  have hj:(l - b.edges).toNat<b.outer.length:=by omega
  rw [show l - ((b.edges.toNat:Nat):Int)=((l - b.edges).toNat:Nat) by omega]
  unfold dz
  rw [mD _ _ _ hj,List.getD_eq_getElem?_getD,List.getElem?_eq_getElem hj];rfl
theorem uu {b:Big} (o:rK b) {l:Int} (h:¬l<b.edges) (h1:l<b.edges+b.outer.length):∃hj:(l - b.edges).toNat<b.outer.length,b.outer.getD (l - b.edges).toNat ⟨#[]⟩=b.outer[(l - b.edges).toNat]∧b.outer[(l - b.edges).toNat]≠⟨#[]⟩:=by
 have hj:(l - b.edges).toNat<b.outer.length:=by omega
 exact ⟨hj,by rw [List.getD_eq_getElem?_getD,List.getElem?_eq_getElem hj];rfl,o.full _ (List.getElem_mem hj)⟩
theorem yR {a:Big} (o:rK a) (E:Int) (ns:List ByteArray) (l:Int) (h:0≤l∧l<a.edges+a.outer.length) :
 nB E ns (id (io a l))=atI (eP 0 a.edges.toNat++dz a.outer E ns) l:=by
 rw [DH o 0 E ns l h]
 unfold io
 by_cases hl:l<a.edges
 ·rw [if_pos hl,if_pos hl];simp [nB]
 ·rw [if_neg hl,if_neg hl]
  obtain ⟨hj,e1,e2⟩:=uu o hl h.2
  rw [e1]
  simp [nB,e2]
theorem wu {ps ks:List Int} {by':Int} {l:List Nd} {pf lf:Int→Int} (hp:∀x∈l,pf x.parent=upF by' ps x.parent) (hl:∀x∈l,∀k∈x.links,lf k=atI ks k):(l.map fun x=>(⟨x.control,pf x.parent,x.links.map lf⟩:Nd))=dc by' ps ks l:=by
 unfold dc ez
 refine List.map_congr_left fun x hx=>?_
 rw [hp x hx,List.map_congr_left (hl x hx)]
theorem wM {ks:List Int} {l:List Wr} {lf:Int→Int} (h:∀x∈l,lf x.link=atI ks x.link):(l.map fun w=>(⟨w.name,lf w.link⟩:Wr))=dA ks l:=by
 unfold dA
 exact List.map_congr_left fun x hx=>by rw [h x hx]
theorem qX {l:List ByteArray} (h:l.Pairwise NLt) (j:Nat) (hj:j<l.length):jC l l[j]=j:=by
 refine uj hj (by simp) (fun k hk=>?_)
 have:=List.pairwise_iff_getElem.1 h k j (by omega) hj hk
 by_cases e:(l[k].toList == l[j].toList)=true
 ·rw [beq_iff_eq] at e
  rw [ft e] at this
  exact absurd this (NLt.irr _)
 ·simpa using e
theorem wq {a b:Big} (oa:rK a) (ob:rK b) (roots:Int) (sites ps ks:List Int) (ns:List ByteArray) (L:ByteArray→Int × ByteArray) (Pl:Int→Int)
 (hp:∀p,-b.roots≤p→p<0→Pl p=atI ps (-1 - p)) (hk:∀l,(0≤l∧l<b.edges+b.outer.length)→nB (a.edges+b.edges) ns (yF a L (io b l))=atI ks l) :
 sH a b roots sites ns L Pl=⟨roots,dc 0 (dg 0 a.roots.toNat) (eP 0 a.edges.toNat++dz a.outer (a.edges+b.edges) ns) a.nodes++dc a.nodes.length ps ks b.nodes,sites++dx a.nodes.length ps b.sites,a.edges+b.edges,ns,dA ks b.inner⟩:=by
 have hm:∀p,-b.roots≤p→zG a Pl p=upF a.nodes.length ps p:=fun p h1=>by
  unfold zG upF
  by_cases h:p<0
  ·rw [if_neg (by omega),if_pos h,hp p h1 h]
  ·rw [if_pos (by omega),if_neg h]
 unfold sH yt
 dsimp only
 rw [wu (by':=0) (ps:=dg 0 a.roots.toNat) (ks:=eP 0 a.edges.toNat++dz a.outer (a.edges+b.edges) ns) (pf:=fun p=>p) (lf:=fun l=>nB (a.edges+b.edges) ns (id (io a l))) (fun x hx=>(Dp oa.roots.1 (oa.pars x hx).1).symm) (fun x hx k hk=>yR oa _ _ k (oa.links x hx k hk)),
  wM (ks:=ks) (lf:=fun l=>nB (a.edges+b.edges) ns (yF a L (io b l))) (fun x hx=>hk _ (ob.wires x hx)),
  List.map_map,show b.nodes.map (DM a Pl ∘ fun x=>(⟨x.control,x.parent,x.links.map fun l=>nB (a.edges+b.edges) ns (yF a L (io b l))⟩:Nd))=b.nodes.map fun x=>(⟨x.control,zG a Pl x.parent,x.links.map fun l=>nB (a.edges+b.edges) ns (yF a L (io b l))⟩:Nd) from rfl,
  wu (by':=(a.nodes.length:Int)) (ps:=ps) (ks:=ks) (fun x hx=>hm _ (ob.pars x hx).1) (fun x hx k hk'=>hk k (ob.links x hx k hk'))]
 congr 1
 exact congrArg (sites ++ ·) (List.map_congr_left fun p hp'=>hm p (ob.sites p hp').1)
theorem pH {a b:Big} (h:Bs a b=true):(a.sites.length:Int)=b.roots∧a.inner.map Wr.name=b.outer:=by
 unfold Bs at h
 simp only [Bool.and_eq_true,decide_eq_true_eq] at h
 exact ⟨h.1,DD h.2⟩
theorem zE {a b:Big} (oa:rK a) (ob:rK b) (h:Bs a b=true):A2 a b=sM a b:=by
 obtain ⟨hs,hn⟩:=pH h
 unfold A2 sM Cl
 rw [lX oa.names,wq oa ob a.roots [] a.sites (eP a.edges b.edges.toNat++a.inner.map fun x=>atI (zk a b) x.link) a.outer _ _ (fun p _ _=>rfl),wn oa.roots.1 (fun p hp=>(oa.sites p hp).1)]
 ·rfl
 intro l hl
 have he:=ob.edges
 rw [uP _ _ _ hl.1,eK]
 by_cases hlt:l<b.edges
 ·rw [show io b l=(l,⟨#[]⟩) from if_pos hlt,if_pos (by omega),oz _ _ _ hl.1 (by omega)]
  simp [yF,nB];omega
 ·rw [show io b l=(0,b.outer.getD (l - b.edges).toNat ⟨#[]⟩) from if_neg hlt,if_neg (by omega)]
  obtain ⟨hj,e1,e2⟩:=uu ob hlt hl.2
  have hj':(l - b.edges).toNat<a.inner.length:=by have:=congrArg List.length hn;simp at this;omega
  rw [e1]
  have hi:jC (a.inner.map Wr.name) b.outer[(l - b.edges).toNat]=(l - b.edges).toNat:=by
   rw [show b.outer[(l - b.edges).toNat]=(a.inner.map Wr.name)[(l - b.edges).toNat]'(by simpa using hj') from by simp only [hn]]
   exact qX oa.inames _ _
  rw [show l - ((b.edges.toNat:Nat):Int)=((l - b.edges).toNat:Nat) by omega,mD _ _ _ hj']
  unfold yF
  rw [if_neg e2]
  dsimp only
  rw [hi,Int.toNat_natCast,List.getD_eq_getElem?_getD,List.getElem?_eq_getElem hj',Option.getD_some]
  exact yR oa _ _ _ (oa.wires _ (List.getElem_mem hj'))
theorem Gy {a b:Big} (oa:rK a) (ob:rK b) (h:Bs a b=true):(A2 a b).inner.length≤1000∧FnD Tryz.prog 225 [a.D,b.D] (.d (A2 a b).D):=by
 obtain ⟨hs,hn⟩:=pH h
 have ha:=oa.inner
 have hb:=ob.inner
 have ea:=oa.edges
 have eb:=ob.edges
 refine ⟨by rw [zE oa ob h,qZ];omega,xe a b oa.dims ob.dims (by omega) (by omega) ⟨ea.1,by omega⟩ ⟨eb.1,by omega⟩ oa.links oa.wires ob.links ob.wires (fun x hx=>?_) (fun p hp=>?_) (fun s hs=>?_)⟩
 ·have:=ob.pars x hx
  omega
 ·have:=ob.sites p hp
  omega
 ·rw [← hn] at hs
  obtain ⟨j,hj,rfl⟩:=List.mem_iff_getElem.1 hs
  exact ⟨j,qX oa.inames _ _,by simpa using hj⟩
def wl (l:List Wr):List Wr:=l.foldl (fN wLt) []
theorem yB {α:Type} (lt:α→α→Bool) (x:α):∀l:List α,(∀y∈l,lt y x=true)→fN lt l x=l++[x]:=by
 intro l
 induction l with
 | nil=>intro _;rfl
 | cons y l ih=>intro h;unfold fN;rw [if_pos (h y (by simp)),ih (fun z hz=>h z (by simp [hz]))];rfl
theorem BE {α:Type} {lt:α→α→Bool}:∀x a:List α,(a++x).Pairwise (fun u v=>lt u v=true)→x.foldl (fN lt) a=a++x:=by
 intro x
 induction x with
 | nil=>intro a _;simp
 | cons u x ih=>
  intro a h
  rw [List.foldl_cons,yB _ _ _ (fun y hy=>(List.pairwise_append.1 h).2.2 y hy u (by simp)),ih _ (by rw [List.append_assoc];exact h),List.append_assoc];rfl
theorem wI {x y:List Wr} (h:(x.map Wr.name).Pairwise NLt):wl (x++y)=bK x y:=by
 unfold wl bK
 rw [List.foldl_append,BE (lt:=wLt) x [] (List.pairwise_map.1 h)];rfl
theorem wV (l:List Wr):(wl l).length=l.length:=by
 have:∀(l a:List Wr),(l.foldl (fN wLt) a).length=a.length+l.length:=by
  intro l
  induction l with
  | nil=>simp
  | cons x l ih=>intro a;rw [List.foldl_cons,ih,pc,List.length_cons];omega
 have h:=this l []
 simpa [wl] using h
theorem Ae (l:List Wr):∀a:List Wr,a.Pairwise (fun u v=>wLt u v=true)→((a++l).map Wr.name).Nodup→(l.foldl (fN wLt) a).Pairwise (fun u v=>wLt u v=true)∧∀z,z∈l.foldl (fN wLt) a↔z∈a++l:=by
 induction l with
 | nil=>intro a h _;exact ⟨h,fun z=>by simp⟩
 | cons x l ih=>
  intro a h hn
  have hx:∀y∈a,wLt y x=true∨wLt x y=true:=fun y hy=>NLt.total fun e=>by
   rw [List.map_append,List.nodup_append] at hn
   exact hn.2.2 _ (List.mem_map_of_mem hy) _ (List.mem_map_of_mem (show x∈x :: l by simp)) e
  have hm:=o8 wLt x
  obtain ⟨h1,h2⟩:=ih (fN wLt a x) (tj (lt:=wLt) (fun u v w=>NLt.trans u.name v.name w.name) x a h hx) (by
   have hp:(fN wLt a x).Perm (x :: a):=by
    clear hn ih hx h
    induction a with
    | nil=>exact List.Perm.refl _
    | cons y a ih2=>unfold fN;split
                    ·exact (ih2.cons y).trans (List.Perm.swap x y a)
                    ·exact List.Perm.refl _
   have hq:(fN wLt a x++l).Perm (a++x :: l):=(hp.append_right l).trans (List.perm_middle.symm)
   exact (hq.map Wr.name).nodup_iff.2 hn)
  refine ⟨h1,fun z=>?_⟩
  rw [List.foldl_cons,h2,List.mem_append,hm,List.mem_append,List.mem_cons]
  constructor
  ·rintro ((h|h)|h) <;> simp [h]
  ·rintro (h|h|h) <;> simp [h]
theorem As {l d:List Wr} (hn:(l.map Wr.name).Nodup) (hp:d.Perm l) (hs:d.Pairwise fun x y=>wLt y x=false):d=wl l:=by
 obtain ⟨h1,h2⟩:=Ae l [] List.Pairwise.nil (by simpa using hn)
 have hd:(d.map Wr.name).Nodup:=(hp.map Wr.name).nodup_iff.2 hn
 have h3:d.Pairwise fun x y=>wLt x y=true:=by
  have h4:d.Pairwise fun x y=>x.name≠y.name:=List.pairwise_map.1 (List.nodup_iff_pairwise_ne.1 hd)
  refine (hs.and h4).imp fun {x y} h=>(NLt.total h.2).resolve_right fun e=>?_
  unfold NLt at e
  have:=h.1
  unfold wLt at this
  rw [e] at this;cases this
 refine Au (lt:=fun x y=>wLt x y=true) (fun x=>NLt.irr _) (fun x y z=>NLt.trans _ _ _) d (wl l) h3 h1 (fun z=>?_)
 rw [hp.mem_iff]
 have:=h2 z
 simpa [wl] using this.symm
def rF (a b:Big):Big:=sH a b (a.roots+b.roots) a.sites (jB a b) (fun s=>(0,s)) (fun p=>p - a.roots)
def yJ (a b:Big):List Wr:=(yt a (a.edges+b.edges) (jB a b) fun l=>nB (a.edges+b.edges) (jB a b) (id (io a l))).inner++(rF a b).inner
def G7 (a b:Big):Big:=⟨(rF a b).roots,(rF a b).nodes,(rF a b).sites,(rF a b).edges,(rF a b).outer,wl (yJ a b)⟩
theorem pO (a b:Big):(yJ a b).map Wr.name=a.inner.map Wr.name++b.inner.map Wr.name:=by
 unfold yJ rF sH yt
 simp only [List.map_append,List.map_map]
 rfl
theorem AZ {a b:Big} (oa:rK a) (ob:rK b):rF a b=⟨a.roots+b.roots,dc 0 (dg 0 a.roots.toNat) (gW a b a 0) a.nodes++dc a.nodes.length (dg a.roots b.roots.toNat) (gW a b b a.edges) b.nodes,a.sites++dx a.nodes.length (dg a.roots b.roots.toNat) b.sites,a.edges+b.edges,jB a b,dA (gW a b b a.edges) b.inner⟩:=by
 unfold rF gW
 refine wq oa ob _ _ (dg a.roots b.roots.toNat) _ _ _ _ (fun p h1 h2=>?_) (fun l hl=>?_)
 ·rw [so _ _ _ (by omega) (by have:=ob.roots;omega)];omega
 ·rw [DH ob _ _ _ l hl]
  unfold io
  by_cases h:l<b.edges
  ·rw [if_pos h,if_pos h];simp [yF,nB];omega
  ·rw [if_neg h,if_neg h]
   obtain ⟨hj,e1,e2⟩:=uu ob h hl.2
   rw [e1]
   simp [yF,nB,e2]
theorem Eh {a b:Big} (oa:rK a) (ob:rK b):G7 a b=g8 a b:=by
 unfold G7 g8
 rw [wn oa.roots.1 (fun p hp=>(oa.sites p hp).1)]
 have hw:yJ a b=dA (gW a b a 0) a.inner++dA (gW a b b a.edges) b.inner:=by
  unfold yJ
  rw [AZ oa ob]
  unfold yt
  dsimp only
  rw [wM (ks:=gW a b a 0) (lf:=fun l=>nB (a.edges+b.edges) (jB a b) (id (io a l))) (fun x hx=>yR oa _ _ _ (oa.wires x hx))]
 rw [hw,AZ oa ob,wI (by unfold dA;rw [List.map_map];exact oa.inames)]
theorem qY (l:List ByteArray) (s:ByteArray):rC l s=l.any fun x=>x.toList == s.toList:=qU l s
theorem sI (a c:List ByteArray):a.any (rC c) = !iq a c:=by
 unfold iq
 rw [Bool.eq_iff_iff,Bool.not_eq_true',List.any_eq_true,List.all_eq_false]
 constructor
 ·rintro ⟨s,h1,h2⟩;exact ⟨s,h1,by rw [← qY,h2];simp⟩
 ·rintro ⟨s,h1,h2⟩;exact ⟨s,h1,by rw [qY];simpa using h2⟩
theorem ug {a c:List ByteArray} (h:iq a c=true) (ha:a.Pairwise NLt) (hc:c.Pairwise NLt):(a++c).Nodup:=by
 refine List.nodup_append.2 ⟨iS NLt NLt.irr ha,iS NLt NLt.irr hc,fun x hx y hy e=>?_⟩
 subst e
 have:=List.all_eq_true.1 h x hx
 rw [Bool.not_eq_true',List.any_eq_false] at this
 exact this x hy (by simp)
end Go.Proofs.YtclpbhoekmecjaaGreatDoor
namespace Go.Proofs.YtclpbhoekmecjaaGreatDoor
open Go.RowKit Go.Sort Go.Proofs
set_option linter.unusedVariables false
set_option linter.unusedSimpArgs false
set_option linter.unusedSectionVars false
structure BU {α:Type} (k:Nat) (enc:α→List Value) (f:α→D):Prop where
 len:∀x,(enc x).length=k
 val:∀w S x cs,Rp w S (f x) cs→cs=enc x
 any:∀w w' S S' x cs,Rp w S (f x) cs→Rp w' S' (f x) cs
section
variable {α:Type} [Inhabited α] {k:Nat} {enc:α→List Value} {fD:α→D} {P:Program} {f:FuncId} {e:TypeId}
theorem H9 (hk:0<k) (hc:BU k enc fD) {F S:BS} {w:World} {v:Value} {xs:List α} (h:(Tk.row k e (xs.map fD)).ok (Cx.of F) w v S):(xs = []∧∃a c,v=.slice a 0 c)∨∃g cap cur,v=.slice (some ⟨g,0,none⟩) xs.length cap∧S g∧w.heap[g]? = some (.cells cur e (0,0))∧xs.length≤cap∧cap≤maxLen∧cur.size=cap * k∧HoldsK enc k w g 0 xs.toArray∧∀x∈xs,∀w' S',Rp w' S' (fD x) (enc x):=by
 rcases h with ⟨hd,a,hv⟩|⟨cells,own,hS,hel⟩
 ·exact .inl ⟨List.map_eq_nil_iff.1 hd,a,0,hv⟩
 have hel:∀j (h:j<xs.length),∃cs,cs.length=k∧Rp w (Cx.of F).F (fD xs[j]) cs∧∀t u,cs[t]? = some u→cells[j * k+t]? = some u:=fun j h=>by
  obtain ⟨cs,q1,q2,q3⟩:=hel j (by rw [List.length_map];exact h)
  rw [List.getElem_map] at q2
  exact ⟨cs,q1,q2,q3⟩
 rw [List.length_map] at own
 have hall:∀x∈xs,∀w' S',Rp w' S' (fD x) (enc x):=fun x hx w' S'=>by
  obtain ⟨j,hj,rfl⟩:=List.mem_iff_getElem.1 hx
  obtain ⟨cs,q1,q2,q3⟩:=hel j hj
  have e1:=hc.val _ _ _ _ q2
  subst e1
  exact hc.any _ _ _ _ _ _ q2
 rcases own.2 with ⟨hv,hn⟩|⟨g,cap,cur,hv,_,hg,h5,h6,h7,h8⟩
 ·exact .inl ⟨List.eq_nil_of_length_eq_zero hn,none,0,hv⟩
 refine .inr ⟨g,cap,cur,hv,hS g (by rw [hv];rfl),hg,h5,h6,h7,fun t ht=>?_,hall⟩
 have ht':t<xs.length * k:=by simpa using ht
 have hq:t / k<xs.length:=Nat.div_lt_of_lt_mul (by rw [Nat.mul_comm];exact ht')
 have hr:t % k<k:=Nat.mod_lt _ hk
 refine ⟨?_,by simp [World.frozen?,hg]⟩
 obtain ⟨cs,q1,q2,q3⟩:=hel (t / k) hq
 have e1:=hc.val _ _ _ _ q2
 subst e1
 have h9:=q3 (t % k) _ (List.getElem?_eq_getElem (by rw [q1];exact hr))
 rw [show t / k * k+t % k=t by rw [Nat.mul_comm];exact Nat.div_add_mod t k,← h8,List.getElem?_take_of_lt ht',Array.getElem?_toList] at h9
 simp only [World.cell?,hg,Nat.zero_add]
 simp only [Option.isSome_none,Bool.false_eq_true,if_false]
 rw [h9]
 show _=some ((flatK enc k xs.toArray)[t]!)
 rw [get_flatK _ _ _ _ (by simpa using ht')]
 simp [hq,q1,hr]
theorem Ay (hk:0<k) (hc:BU k enc fD) {ys:List α} (hall:∀(w':World) (S':BS),∀y∈ys,Rp w' S' (fD y) (enc y)) {F S:BS} {w':World} {g cap:Nat} (own:w'.ownsRow 0 e k (.slice (some ⟨g,0,none⟩) ys.length cap) ys.length (flatK enc k ys.toArray).toList) (hS:S g):(Tk.row k e (ys.map fD)).ok (Cx.of F) w' (.slice (some ⟨g,0,none⟩) ys.length cap) S:=by
 refine .inr ⟨(flatK enc k ys.toArray).toList,by rw [List.length_map];exact own,fun k hk=>by cases hk;exact hS,fun j hj=>⟨enc (ys[j]'(by simpa using hj)),hc.len _,?_,fun t u ht=>?_⟩⟩
 ·rw [List.getElem_map];exact hall _ _ _ (List.getElem_mem _)
 ·have hj':j<ys.length:=by simpa using hj
  have htk:t<k:=by
   have:=(List.getElem?_eq_some_iff.1 ht).1
   rwa [hc.len] at this
  have hb:j * k+t<ys.toArray.size * k:=by
   have:=Nat.mul_le_mul_right k (show j+1≤ys.length from hj')
   rw [Nat.add_mul,Nat.one_mul] at this
   simp;omega
  have e1:(j * k+t) / k=j:=(blk_iff k j _ hk).1 ⟨by omega,by omega⟩
  have e2:(j * k+t) % k=t:=by rw [Nat.mod_eq_sub_div_mul,e1];omega
  have h1:=get_flatK enc k ys.toArray _ hb
  rw [e1,e2] at h1
  have hs:j * k+t<(flatK enc k ys.toArray).size:=by rw [size_flatK];exact hb
  rw [Array.getElem?_toList,Array.getElem?_eq_getElem hs,← getElem!_pos (flatK enc k ys.toArray) (j * k+t) hs,h1]
  have h2:=(List.getElem?_eq_some_iff.1 ht).2
  simp [hj',hc.len,htk,h2]
theorem Fa (hk:0<k) (hc:BU k enc fD) {xs ys:List α} {ds:List D} {vs0:List Value} (henter:∀args w,(callFunc f args).run P w=.ok (.enter f args) w) (hmem:∀y∈ys,y∈xs) (hlen:ys.length=xs.length) (hvs:∀w F vs,DVs w F ds vs→vs=vs0) (hno:∀p cap w,Calls P f (.slice p 0 cap :: vs0).toArray w fun en w'=>en=.returned (.tuple #[])∧w'=w)
 (hyes:∀g cap w,HoldsK enc k w g 0 xs.toArray→g<w.heap.size→Calls P f (.slice (some ⟨g,0,none⟩) xs.length cap :: vs0).toArray w fun en w'=>en=.returned (.tuple #[])∧∃n os,w'=grow (putRowK enc k (Sort.ahead w n) g 0 ys.toArray) os):FnS P f k e (xs.map fD) ds (ys.map fD):=by
 refine ⟨henter,fun F S w v vs hv hds hF hS=>?_⟩
 obtain rfl:=hvs _ _ _ hds
 rcases H9 hk hc hv with ⟨rfl,a,c,rfl⟩|⟨g,cap,cur,rfl,hSg,hb,h5,h6,h7,hH,hall⟩
 ·have:ys = []:=List.eq_nil_of_length_eq_zero hlen
  subst this
  refine (hno a c w).mono ?_
  rintro en w' ⟨rfl,rfl⟩
  exact ⟨rfl,⟨rfl,rfl,rfl,Nat.le_refl _,fun _ _ _=>rfl⟩,hv⟩
 ·refine (hyes g cap w hH (Array.getElem?_eq_some_iff.1 hb).1).mono ?_
  rintro en w' ⟨rfl,n,os,rfl⟩
  refine ⟨rfl,Chg.grown (jE id _) (fun k hk=>by cases hk;exact hSg),?_⟩
  have hfl:(flatK enc k ys.toArray).toList.length=ys.length * k:=by simp
  have hle:ys.length * k≤cap * k:=Nat.mul_le_mul_right k (by omega)
  rw [← hlen]
  refine Ay hk hc (fun w' S' y hy=>hall y (hmem y hy) w' S') ⟨hfl,.inr ⟨g,cap,_,rfl,Nat.zero_le _,wZ id _ hb,by omega,h6,by simp [putCells,h7],?_⟩⟩ hSg
  have ht:=wR id cur (flatK enc k ys.toArray).toList [] (by rw [List.append_nil,hfl,h7];exact hle)
  rw [List.append_nil,hfl,List.map_id] at ht
  rw [show (flatK enc k ys.toArray).toList.toArray=flatK enc k ys.toArray from rfl] at ht
  exact ht
theorem Ew {z:Nat} {F S:BS} {w:World} {v:Value} (h:(Tk.row z e []).ok (Cx.of F) w v S) (G:BS):DV w G (.l z []) v:=by
 rcases h with ⟨_,a,rfl⟩|⟨cells,own,_,_⟩
 ·exact ⟨a,0,rfl,Nat.le_refl _,by decide,fun _=>rfl,.inl rfl⟩
 ·rcases own.2 with ⟨rfl,_⟩|⟨g,cap,cur,rfl,_,_,h5,h6,_,_⟩
  ·exact ⟨none,0,rfl,Nat.le_refl _,by decide,fun _=>rfl,.inl rfl⟩
  ·exact ⟨_,cap,rfl,h5,h6,(fun h=>by cases h),.inl rfl⟩
theorem DU {enc:α→Value} (hc:vm enc fD) {xs ys us:List α} {ds:List D} (henter:∀args w,(callFunc f args).run P w=.ok (.enter f args) w) (hmem:∀y∈ys,y∈xs) (hlen:(ys++us).length=xs.length) (hno:∀(w:World) (F:BS) (vs:List Value) (v:Value),DVs w F ds vs→(∀b,F b→b<w.heap.size)→DV w F (.l 1 []) v→xs = []→Calls P f (v :: vs).toArray w fun en w'=>en=.returned v∧Ext w w')
 (hyes:∀(w:World) (F:BS) (vs:List Value) (g cap:Nat),DVs w F ds vs→(∀b,F b→b<w.heap.size)→¬F g→Go.Sort.Holds enc w g 0 xs.toArray→g<w.heap.size→xs.length≤cap→xs.length≤maxLen→Calls P f (.slice (some ⟨g,0,none⟩) xs.length cap :: vs).toArray w fun en w'=>en=.returned (.slice (some ⟨g,0,none⟩) ys.length cap)∧∃q,w'=putRow enc (Sort.ahead w q) g 0 (ys++us).toArray):FnC P f 1 e (xs.map fD) ds (ys.map fD):=by
 refine ⟨henter,fun F S w v vs hv hvs hF hS=>?_⟩
 by_cases hx:xs = []
 ·subst hx
  have:ys = []:=by
   have:=List.eq_nil_of_length_eq_zero hlen
   exact (List.append_eq_nil_iff.1 this).1
  subst this
  refine (hno w F vs v hvs hF (Ew hv F) rfl).mono ?_
  rintro en w' ⟨rfl,hX⟩
  exact ⟨_,rfl,Chg.ext hX,Tk.keep (Cx.Le.refl _) (Below.size hX) (fun b _ hl=>hX.block b hl) (fun b _ hl=>hX.block b hl) _ _ hv⟩
 rcases GU hc hv with ⟨rfl,a,k,rfl⟩|⟨g,cap,cur,rfl,hSg,hb,h5,h6,h7,h8,hall⟩
 ·exact absurd rfl hx
 ·refine (hyes w F vs g cap hvs hF (hS g hSg).1 (oE enc hb h8) (Array.getElem?_eq_some_iff.1 hb).1 h5 (Nat.le_trans h5 h6)).mono ?_
  rintro en w' ⟨rfl,q,rfl⟩
  have hg0:putRow enc (Sort.ahead w q) g 0 (ys++us).toArray=grow (putRow enc (Sort.ahead w q) g 0 (ys++us).toArray) #[]:=by unfold grow;rw [Array.append_empty]
  rw [hg0]
  exact ⟨_,rfl,Chg.grown (jE enc _) (fun k hk=>by cases hk;exact hSg),n5 (fun w' S' y hy=>hall y (hmem y hy) w' S') (uS enc hlen hb h5 h6 h7) hSg⟩
end
theorem HJ (i o:Nat) {W0:cf} {N:Nat} {σ:Env} {Q:Exit→Act→World→Prop} {x:Exit} {n e j:Nat} {cs:List Sy} {ds:List D} (h:At W0 N ((i,.tk (.bx (cs.set o (.d (.l n ds))))) :: (j,.no) :: σ) x Q) (hi:au σ i=some (.tk (.bx cs)):=by rfl) (hc:cs[o]? = some (.k j):=by rfl) (hj:au σ j=some (.tk (.row n e ds)):=by rfl) (hne:Nat.beq j i=false:=by rfl):At W0 N σ x Q:=fun a w hh=>h a w (hh.fzB hi hc hj hne)
end Go.Proofs.YtclpbhoekmecjaaGreatDoor
